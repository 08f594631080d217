/- Part 2. No condition. -/
import Derived.Test.YtljeodbenlfgfaaGreatDoorA1
import Derived.KernelRfl
import Derived.Test.YtljeodbenlfgfaaGreatDoorProg
import Derived.MapKept
import Derived.Maps.RangeRun
import Derived.Laws.MakeOwn
import Derived.Lib.SliceRun
import Derived.Lib.FrozenHead
import Derived.Lib.UnsafeStr
import Derived.Lib.MakeNoZero
set_option linter.all false
set_option maxHeartbeats 8000000
open Go.Proofs
open Go.Proofs.Tryz
open Go.Conc (G)
open List renaming length → c, range → aA, getD_eq_getElem?_getD → ak, all_eq_true → aY
open Go renaming Value → Y, TypeId → ao, Event → aR, undef → I, World → au, Frame → aJ, FuncId → a2, execOp → ab, Operand → ae, Program → aE, Goroutine → ai, stepG → ar, Oper → ap
open Option renaming some → f, none → n
open Bool renaming true → l, false → u
open Nat renaming beq → ad, ble → ay
open Go.Region renaming wanted → aS, ready → aQ
open Go.World renaming cell? → aL
open Go.Sem renaming events_bind → aD
open Go.Result renaming evThen_ok → aG
open Go.Instr renaming sliceBounds → aW
open Go.Op renaming equalIn → aO
open Go.Proofs.Tryz renaming prog → V
namespace Go.AM
variable {j z:Nat}{h:Int}{d i e t:Nat}{W:ao}{H:Y->(Nat->Option Obj)->Prop}{L:Array Bool}{bA:Mem}{D:Nat}{P:aE}{bq:ai->a5->Prop}{q:Code}{B:ai}{r:ap}{b:a5}{o:ao}{aa:Y}{α:Type}{η:ae->y}{ι:Type}{k:m an}{F:bH}{all:m ap}{dt:Array ao}{cap:m O}{cR:m y}{k7:Nat->Option Obj}{ah:m aJ}{bg:m (Nat×Bool)}{U:Nat->m O}{cP:ae}{gs:Array ai}{aT:m Nat}{cj:m Prop}{off:Nat}{op:BinOp}{aF:Array ap}{Z:m Prop}{br:m ap}{az:a5}{ty:ao}{val:Nat->Nat->Y}{A:m Y}{bj:au}{ag:Array ae}{aq dh:m an}{res:ι->y}{aP:ι->m an}
section force
variable {S:Type}
def vb:O->(O->Option S)->Option S
 |.int g h,a=>a (.int g h)
 |.bool e,a=>a (.bool e)
 |.V m,a=>a (.V m)
 |.R l g h d,a=>a (.R l g h d)
 |.R u g h d,a=>a (.R u g h d)
 |.M b,a=>e0 b λb=>a (.M b)
 |.cF o b,a=>e0 b λb=>a (.cF o b)
 |.fn k i e,a=>e0 i λi=>e0 e λe=>a (.fn k i e)
 |j,a=>a j
def YJ(q)(b:O->Option S):vb q b=b q:=by
 cases q with
 |R d=>cases d<;>rfl
 |M a=>simp[vb,hz]
 |cF d a=>simp[vb,hz]
 |fn h e g=>simp[vb,hz]
 |_=>rfl
def va:Q->(Q->Option S)->Option S
 |.c j,a=>vb j λj=>a (.c j)
 |.ptr b i,a=>a (.ptr b i)
 |.w b d h e,a=>a (.w b d h e)
 |.aK b,a=>a (.aK b)
 |.K b (.R g d i h),a=>a (.K b (.R g d i h))
 |.K b (.bp g d m k),a=>a (.K b (.bp g d m k))
 |.any,a=>a .any
def JP(a)(b:Q->Option S):va a b=b a:=by
 cases a with
 |K e d=>cases d<;>simp[va]
 |_=>simp[va,YJ]
def yo:m Q->(m Q->Option S)->Option S
 |[],b=>b []
 |a::d,b=>va a λa=>yo d λd=>b (a::d)
def YI(d)(a:m Q->Option S):yo d a=a d:=by
 induction d generalizing a with
 |nil=>rfl
 |cons e g b=>simp[yo,JP,b]
def yq:E1->(E1->Option S)->Option S
 |.ar b,d=>va b λb=>d (.ar b)
 |.agg a,d=>yo a λa=>d (.agg a)
def JQ(a)(b:E1->Option S):yq a b=b a:=by cases a<;>simp[yq,JP,YI]
def yr:m E1->(m E1->Option S)->Option S
 |[],b=>b []
 |a::d,b=>yq a λa=>yr d λd=>b (a::d)
def YK(d)(a:m E1->Option S):yr d a=a d:=by
 induction d generalizing a with
 |nil=>rfl
 |cons e g b=>simp[yr,JQ,b]
def pf:y->(y->Option S)->Option S
 |.n d,b=>yq d λd=>b (.n d)
 |.Q a,b=>yr a λa=>b (.Q a)
 |.any,b=>b .any
theorem vc(a)(b:y->Option S):pf a b=b a:=by cases a<;>simp[pf,JQ,YK]
end force
def qN:y->Option (Bool×Nat×Nat×(Nat->m O))
 |.n (.ar (.c (.R e b d a)))=>f (e,b,d,a)
 |.n (.ar (.w _ b d a))=>f (u,b,d,a)
 |_=>n
theorem tD{d}{o}{h}(a:qN d=f (o,h,j,U))(k)(b)(aa)(e:bv k b aa d):Rd b.u aa (.R o h j U):=by
 unfold qN at a;split at a
 .cases a;exact e
 .cases a;exact e.1
 grind
def kF(b:m UInt8)(a:Int):UInt8:=b.getD a.toNat 0
def Dq(b:m (Nat×cq))(h:ao)(a:y):Option y:=
 match b1 b h with
 |none=>n
 |some d=>match d.desc with
  |.slice _=>match qN a with
   |some (_,_,e,_)=>f (ax (.int .i64 e))
   |none=>n
  |.string=>match a with
   |.n (.ar (.c (.V g)))=>f (ax (.int .i64 (c g)))
   |_=>n
  |_=>n
def B7(e:m (Nat×cq))(b dst:ao)(d:y):Option (y×m Prop):=
 match b1 e b with
 |none=>n
 |some h=>match b1 e dst with
  |none=>n
  |some i=>match i.desc with
   |.int a=>match d with
    |.n (.ar (.c (.int _ k)))=>f (ax (.int a k),[a8 a k])
    |_=>n
   |.string=>match d with
    |.n (.ar (.c (.V s)))=>f (ax (.V s),[])
    |d=>match h.desc with
     |.slice o=>match b1 e o with
      |some j=>match j.desc with
       |.int .u8=>match qN d with
        |some (_,p,q,g)=>match ad p 1 with
         |true=>match uP g 0 q with
          |some r=>f (ax (.V r),[])
          |none=>n
         |false=>n
        |none=>n
       |_=>n
      |none=>n
     |_=>n
   |_=>n
def Es(j:m (Nat×cq))(a:ae->y)(t:ao)(p:ae)(i h:Option ae):Option (y×m Prop):=
 match b1 j t with
 |none=>n
 |some r=>match kE a i with
  |none=>n
  |some d=>match kE a h with
   |none=>n
   |some e=>match r.desc with
    |.string=>match a p with
     |.n (.ar (.c (.V o)))=>f (ax (.V (mo o d e)),jh (c o) d e)
     |_=>n
    |.slice q=>match b1 j q with
     |none=>n
     |some b=>match qN (a p)with
      |some (eO,s,k,g)=>match ad s b.size with
       |true=>f (ax (.R (xS eO e) b.size (bV k e-bV 0 d) (fF (bV 0 d) g)),jh k d e)
       |false=>n
      |none=>n
    |_=>n
def sE(d:BinOp)(e:IntKind)(g:Int)(b:IntKind)(h:Int):Option (y×m Prop):=
 match uK d e g b h with
 |some (i,a)=>f (ax (.int e i),a)
 |none=>n
theorem Sz{h a}{b i}{e}(g:sE op h b a i=f (e,cj)):∃d,e=ax (.int h d)/\uK op h b a i=f (d,cj):=by unfold sE at g;grind
def GW(q:m (Nat×cq))(e:BinOp)(r:ao)(t v:y):Option (y×m Prop):=
 match t,v with
 |.n (.ar (.c (.bool b))),.n (.ar (.c (.bool a)))=>match b1 q r with
  |some p=>match p.desc with
   |.bool=>match ia e (b==a)with
    |some g=>f (ax (.bool g),[])
    |none=>n
   |_=>n
  |none=>n
 |.n (.ar (.c b)),.n (.ar (.c a))=>match e with
  |.xor=>match b,a with
   |.int .i64 b,.int .i64 a=>f (ax (.int .i64 ((b.toNat ^^^ a.toNat:Nat):Int)),[0<=b,0<=a])
   |.int .u64 b,.int d a=>sE .xor .u64 b d a
   |_,_=>n
  |.shl=>match b,a with
   |.int h b,.int d a=>sE .shl h b d a
   |_,_=>n
  |.shr=>match b,a with
   |.int h b,.int d a=>sE .shr h b d a
   |_,_=>n
  |.and=>match b,a with
   |.int h b,.int d a=>sE .and h b d a
   |_,_=>n
  |_=>match xo e b a with
   |some (g,i)=>f (ax g,i)
   |none=>n
 |.n (.agg j),.n (.agg o)=>match b1 q r with
  |some p=>match p.eq with
   |[]=>n
   |s::k=>match ql (s::k) j o with
    |some a=>match ia e a with
     |some g=>f (ax (.bool g),[])
     |none=>n
    |none=>n
  |none=>n
 |_,_=>n
def yX(g:m (Nat×cq))(A:m (Nat×bJ))(b:bH)(O:ap):Option (y×m Prop):=
 match O.op with
 |.move a|.assign a=>f (bE b a,[])
 |.index d a x=>match b1 g d with
  |some k=>match k.desc with
   |.string=>match bE b a,bE b x with
    |.n (.ar (.c (.V r))),.n (.ar (.c (.int _ i)))=>f (ax (.int .u8 (kF r i).toNat),[0<=i,i<c r])
    |_,_=>n
   |_=>n
  |none=>n
 |.indexAddr d a x=>match b1 g d with
  |some k=>match k.desc with
   |.slice M=>match b1 g M with
    |some I=>match qN (bE b a),bE b x with
     |some (_,o,z,p),.n (.ar (.c (.int _ i)))=>match ad o I.size with
      |true=>f (ax (.M (p i.toNat)),[0<=i,i<z])
      |false=>n
     |_,_=>n
    |none=>n
   |_=>n
  |none=>n
 |.slice d a J F n=>Es g (bE b) d a J F
 |.convert w dst a=>B7 g w dst (bE b a)
 |.call h=>match h.callee with
  |.builtin .len=>match h.args.toList,h.argTypes[0]? with
   |[a],f d=>match Dq g d (bE b a)with
    |some N=>f (N,[])
    |none=>n
   |_,_=>n
  |.value E=>BT A b E h.args.toList
  |_=>n
 |.pick h s t=>match bE b h with
  |.n (.ar (.c (.bool l)))=>f (bE b s,[])
  |.n (.ar (.c (.bool u)))=>f (bE b t,[])
  |_=>n
 |.binOp q d a x _=>GW g q d (bE b a) (bE b x)
 |.unOp q _ a=>match bE b a with
  |.n (.ar (.c s))=>match zK q s with
   |some h=>f (ax h,[])
   |none=>n
  |_=>n
 |.extract a i=>match bE b a with
  |.Q K=>match c' i K with
   |some v=>f (.n v,[])
   |none=>n
  |_=>n
 |.fieldAddr d a D=>match ld g d D with
  |some (o,_)=>match bE b a with
   |.n (.ar (.ptr r j))=>f (aH r (j+o),[])
   |.n (.ar (.c (.M e)))=>f (ax (.M (ga o e)),[])
   |_=>n
  |none=>n
 |.field d a D=>match ld g d D with
  |some (o,i)=>match bE b a with
   |.n (.agg e)=>match hk i (ga o e)with
    |some v=>f (.n v,[])
    |none=>n
   |_=>n
  |none=>n
 |.nilCheck a=>match bE b a with
  |.n (.ar (.ptr r j))=>f (aH r j,[])
  |.n (.ar (.c (.M e)))=>f (ax (.M e),[])
  |_=>n
 |.build d parts=>match xt g (bE b) d parts.toList with
  |some e=>f (.n (.agg e),[])
  |none=>n
 |.buildSlice d z parts=>match rR g (bE b) d z parts.toList with
  |some (o,p)=>f (ax (.R l o z λk=>p.getD k []),[])
  |none=>n
 |.makeFunc fn s t=>match ry (bE b) s.toList with
  |some B=>match ry (bE b) t.toList with
   |some C=>f (ax (.fn fn B C),[])
   |none=>n
  |none=>n
 |.makeInterface d a=>match b1 g d with
  |some k=>match vq k.desc with
   |false=>match yM d (bE b a)with
    |some h=>f (ax h,[])
    |none=>n
   |true=>n
  |none=>n
 |.typeAssert a _ d l=>match b1 g d with
  |some k=>match vq k.desc with
   |false=>match bE b a with
    |.n (.ar (.c h))=>match sC d k h with
     |some (v,t)=>f (.Q [v,.ar (.c (.bool t))],[])
     |none=>n
    |_=>n
   |true=>n
  |none=>n
 |_=>n
def Dv(h:m (Nat×cq))(g:bH)(i:m an)(k:ao)(o:ae):Option y:=
 match b1 h k with
 |some e=>match bE g o with
  |.n (.ar (.ptr j b))=>match c' j i with
   |some (.cells _ a)=>match hk e (ga b a)with
    |some d=>f (.n d)
    |none=>n
   |_=>n
  |.n (.ar (.c (.M a)))=>match hk e (a.map Q.c)with
   |some d=>f (.n d)
   |none=>n
  |_=>n
 |none=>n
def DO(k:m (Nat×cq))(b:bH)(J:ap):Option (y×m Prop):=
 match J.op with
 |.indexAddr j g w=>match b1 k j with
  |some a=>match a.desc with
   |.slice q=>match b1 k q with
    |some e=>match bE b g,bE b w with
     |.n (.ar (.K s (.R r o v h))),.n (.ar (.c (.int _ d)))=>match ad o e.size with
      |true=>f (cD s (.bp r e.size (v+d.toNat) 0),[0<=d,d<h])
      |false=>n
     |.n (.ar (.c (.val (.slice (f ⟨z,i,n⟩) p _)))),.n (.ar (.c (.int _ d)))=>f (ax (.val (.pointer (f ⟨z,i+d.toNat*e.size,n⟩))),[0<=d,d<p])
     |_,_=>n
    |none=>n
   |_=>n
  |none=>n
 |.fieldAddr j g I=>match ld k j I with
  |some (o,_)=>match bE b g with
   |.n (.ar (.K s (.bp r x a v)))=>f (cD s (.bp r x a (v+o)),[])
   |.n (.ar (.c (.val (.pointer (f ⟨z,i,n⟩)))))=>f (ax (.val (.pointer (f ⟨z,i+o,n⟩))),[])
   |_=>n
  |none=>n
 |.nilCheck g=>match bE b g with
  |.n (.ar (.K s (.bp r x a v)))=>f (cD s (.bp r x a v),[])
  |_=>n
 |.slice j g D C n=>match b1 k j with
  |none=>n
  |some a=>match kE (bE b) D with
   |none=>n
   |some t=>match kE (bE b) C with
    |none=>n
    |some F=>match a.desc with
     |.slice q=>match b1 k q with
      |none=>n
      |some e=>match bE b g with
       |.n (.ar (.K s (.R r o v h)))=>match ad o e.size with
        |true=>f (cD s (.R r e.size (v+bV 0 t) (bV h F-bV 0 t)),jh h t F)
        |false=>n
       |_=>n
     |_=>n
 |.slice j g n (f w) (f E)=>match b1 k j with
  |none=>n
  |some a=>match a.desc with
   |.slice q=>match b1 k q with
    |none=>n
    |some _=>match qN (bE b g),bE b w,bE b E with
     |some (_,o,p,B),.n (.ar (.c (.int _ d))),.n (.ar (.c (.int _ h)))=>f (ax (.R u o d.toNat B),[0<=d,d<=h,h<=p])
     |_,_,_=>n
   |_=>n
 |.slice j g (f K) (f w) (f E)=>match b1 k j with
  |none=>n
  |some a=>match a.desc with
   |.slice q=>match b1 k q with
    |none=>n
    |some _=>match bE b g,bE b K,bE b w,bE b E with
     |.n (.ar (.K _ (.R _ _ _ p))),.n (.ar (.c (.int _ a))),.n (.ar (.c (.int _ d))),.n (.ar (.c (.int _ h)))=>f (.n (.ar .any),[0<=a,a<=d,d<=h,h<=p])
     |_,_,_,_=>n
   |_=>n
 |.call A=>match A.callee with
  |.builtin .len=>match A.args.toList,A.argTypes[0]? with
   |[g],f j=>match b1 k j with
    |some a=>match a.desc with
     |.slice _=>match bE b g with
      |.n (.ar (.K _ (.R _ _ _ h)))=>f (ax (.int .i64 h),[])
      |.n (.ar (.c (.val (.slice _ p _))))=>f (ax (.int .i64 p),[p<=9223372036854775807])
      |_=>n
     |_=>n
    |none=>n
   |_,_=>n
  |_=>n
 |_=>n
def yD(i:m (Nat×cq))(h:bH)(j:m an)(s:ao)(t:ae):Option (y×m Prop):=
 match b1 i s with
 |some b=>match bE h t with
  |.n (.ar (.K r (.bp p q e o)))=>match c' r j with
   |some (.p _ d g a)=>match ad d q with
    |true=>match hk b ((ga o (a e)).map Q.c)with
     |some k=>f (.n k,[p=g,e<g])
     |none=>n
    |false=>n
   |_=>n
  |_=>n
 |none=>n
def ad3:Nat->m O->Nat->Bool
 |0,a,b=>ad (c a) b
 |_+1,_,_=>u
def ED(v:m (Nat×cq))(q:bH)(i:m an)(w:ao)(x z:ae):Option (y×m an×m Prop):=
 match b1 v w with
 |some k=>match bE q x with
  |.n (.ar (.K o (.bp s t h r)))=>match c' o i with
   |some (.p p e g d)=>match ad e t with
    |true=>match mm (bE q z)with
     |some new=>match ad (c new) k.size with
      |true=>match h7 new with
       |some b=>match ad3 r b t with
        |true=>e0 (db.cp o (.p p e g (ln h b d)) i) λa=>f (.any,a,[s=g,h<g])
        |false=>match iY r b (d h)with
         |some j=>e0 (db.cp o (.p p e g (ln h j d)) i) λa=>f (.any,a,[s=g,h<g])
         |none=>n
       |none=>n
      |false=>n
     |none=>n
    |false=>n
   |_=>n
  |_=>n
 |none=>n
def pt(b:m (Nat×cq))(d:m (Nat×bJ))(a:bH)(g:m an)(e:ap):Option (y×m Prop):=
 match e.op with
 |.load h i=>match Dv b a g h i with
  |some j=>f (j,[])
  |none=>yD b a g h i
 |_=>match yX b d a e with
  |some k=>f k
  |none=>DO b a e
def xi(e:m (Nat×cq))(i t2:ao):Option (ao×cq):=
 match b1 e i with
 |none=>n
 |some h=>match b1 e t2 with
  |none=>n
  |some g=>match h.desc with
   |.slice b=>match g.desc with
    |.slice d=>match ad d b with
     |false=>n
     |true=>match b1 e b with
      |none=>n
      |some a=>match ay 1 a.bytes,ay 1 a.size with
       |true,l=>f (b,a)
       |_,_=>n
    |_=>n
   |_=>n
def uG(h:m (Nat×cq))(e:ae->y)(k:ae)(j t2:ao):Option (ao×cq×Nat×(Nat->m O)):=
 match xi h j t2 with
 |none=>n
 |some (g,b)=>match qN (e k)with
  |none=>n
  |some (_,d,i,a)=>match ad d b.size with
   |false=>n
   |true=>f (g,b,i,a)
def A2(t:m (Nat×cq))(s:ae->y)(j:m an)(x z:ae)(w t2:ao):Option (y×m an×m Prop):=
 match uG t s z w t2 with
 |none=>n
 |some (q,a,i,b)=>match s x with
  |.n (.ar (.c (.R l r d g)))=>match ad r a.size with
   |true=>e0 (j++[.w q a.size (d+i) (cg d g b)]) λh=>f (.n (.ar (.w (c j) a.size (d+i) (cg d g b))),h,[(d+i)*a.bytes<=140737488355328,d=0∨0<i])
   |false=>match ad d 0 with
    |true=>e0 (j++[.w q a.size (d+i) (cg d g b)]) λh=>f (.n (.ar (.w (c j) a.size (d+i) (cg d g b))),h,[(d+i)*a.bytes<=140737488355328,d=0∨0<i])
    |false=>n
  |.n (.ar (.w p r d g))=>match c' p j with
   |some (.w k o e kH)=>match ad k q,ad r a.size,ad o a.size with
    |true,l,l=>e0 (db.cp p (.w q a.size (d+i) (cg d g b)) j) λh=>f (.n (.ar (.w p a.size (d+i) (cg d g b))),h,[e=d,kH=g,(d+i)*a.bytes<=140737488355328])
    |_,_,_=>n
   |_=>n
  |.n (.ar (.K p (.R v r 0 d)))=>match c' p j with
   |some (.p k o e kH)=>match ad k q,ad r a.size,ad o a.size with
    |true,l,l=>e0 (db.cp p (.p q a.size (e+i) (cg e kH b)) j) λh=>f (cD p (.R (e+i) a.size 0 (e+i)),h,[v=e,d=e,(e+i)*a.bytes<=140737488355328])
    |_,_,_=>n
   |_=>n
  |_=>n
def DR(d:m (Nat×cq))(g:m (Nat×bJ))(a:bH)(b:m an)(i:ap):Option (y×m an×m Prop):=
 match i.op with
 |.alloc _|.box _ _=>yW d a b i
 |.store j k o=>match yW d a b i with
  |some p=>f p
  |none=>ED d a b j k o
 |.call e=>match e.callee with
  |.builtin .append=>match e.args.toList,e.argTypes.toList with
   |[k,o],[j,t2]=>A2 d (bE a) b k o j t2
   |_,_=>n
  |.value h=>BS g a b h e.args.toList
  |_=>n
 |_=>n
def A1(i:m (Nat×cq))(e:ae->y)(k o:ae)(j t2:ao):Option (y×m Prop):=
 match uG i e o j t2 with
 |none=>n
 |some (_,b,h,a)=>match e k with
  |.n (.ar (.c (.R l p d g)))=>match ad d 0 with
   |true=>f (ax (.R u b.size (d+h) (cg d g a)),[(d+h)*b.bytes<=140737488355328,d=0∨0<h])
   |false=>n
  |_=>n
def DP(d:m (Nat×cq))(b:bH)(e:ap):Option (y×m Prop):=
 match e.op with
 |.call a=>match a.callee with
  |.builtin .append=>match a.args.toList,a.argTypes.toList with
   |[h,i],[g,t2]=>A1 d (bE b) h i g t2
   |_,_=>n
  |_=>n
 |_=>n
def vy:m (Nat×Bool)->Nat->Option Bool
 |[],_=>n
 |(d,b)::e,a=>match ad d a with|true=>f b|false=>vy e a
def Dk(a:m (Nat×Bool)):Option Nat->Bool
 |none=>u
 |some b=>match vy a (2000000+b)with
  |some l=>l
  |_=>u
def Zr(a:m (Nat×Bool)):Option Nat->Bool
 |none=>u
 |some b=>match vy a (3000000+b)with
  |some l=>l
  |_=>u
def A3(s:ao)(a:cq)(d:ae->y)(t:m an)(z A:ae):Option (y×m an×m Prop):=
 match d z,d A with
 |.n (.ar (.K e (.R w x 0 o))),.n (.ar (.K r (.R k p v g)))=>match ad r e with
  |false=>n
  |true=>match c' e t with
   |some (.p h q b j)=>match ad h s,ad x a.size,ad p a.size,ad q a.size with
    |true,l,l,l=>e0 (db.cp e (.p s a.size b (qH o v g j)) t) λi=>f (cD e (.R b a.size 0 (o+g)),i,[w=b,k=b,o+g<=b,v+g<=b])
    |_,_,_,_=>n
   |_=>n
 |_,_=>n
def A4(s:Bool)(k:m (Nat×cq))(b:ae->y)(h:m an)(p q:ae)(o t2:ao):Option (y×m an×m Prop):=
 match s with
 |true=>match uG k b q o t2 with
  |none=>n
  |some (g,a,e,d)=>match b p with
   |.n (.ar (.c (.R l _ r j)))=>match ad r 0 with
    |true=>e0 (h++[.p g a.size (0+e) (cg 0 j d)]) λi=>f (cD (c h) (.R (0+e) a.size 0 (0+e)),i,[(0+e)*a.bytes<=140737488355328])
    |false=>n
   |_=>n
 |false=>match xi k o t2 with
  |none=>n
  |some (g,a)=>A3 g a b h p q
def yY(i:Bool)(d:m (Nat×cq))(b:bH)(e:m an)(g:ap):Option (y×m an×m Prop):=
 match g.op with
 |.call a=>match a.callee with
  |.builtin .append=>match a.args.toList,a.argTypes.toList with
   |[j,k],[h,t2]=>A4 i d (bE b) e j k h t2
   |_,_=>n
  |_=>n
 |_=>n
def vI(h:m (Nat×Bool))(e:m (Nat×cq))(b:m (Nat×bJ))(d:bH)(g:m an)(a:ap):Option (y×m an×m Prop):=
 match Zr h a.dst with
 |true=>yY l e d g a
 |false=>match DR e b d g a with
  |some i=>f i
  |none=>yY u e d g a
def u2(b:m (Nat×Bool))(g:Option Nat)(d:y)(a:m Prop):Option (y×m Prop):=
 match g with
 |none=>f (d,a)
 |some i=>match vy b i with
  |none=>f (d,a)
  |some e=>match d with
   |.n (.ar (.c (.bool h)))=>f (ax (.bool e),gN a [h=e])
   |_=>n
def Tk{g}{d e}{b}(a:u2 bg g d cj=f (e,b))(h:T b):e=d/\T cj:=by
 unfold u2 at a;split at a
 .grind
 split at a
 .grind
 split at a
 .cases a;simp_all
 grind
def hE(j:m (Nat×cq))(g:m (Nat×bJ))(d:m (Nat×Bool))(h:m ap)(i:bH)(q:m an)(e:ap):Option (y×Option (m an)×m Prop):=
 let go:Option (y×Option (m an)×m Prop):=match pt j g i q e with
  |some (b,a)=>match u2 d e.dst b a with
   |some (p,r)=>pf p λp=>f (p,n,r)
   |none=>n
  |none=>match Dk d e.dst with
   |true=>match DP j i e with
    |some (b,a)=>pf b λb=>f (b,n,a)
    |none=>n
   |false=>match vI d j g i q e with
    |some (b,k,a)=>pf b λb=>f (b,f k,a)
    |none=>n
 match e.guard with
 |none=>go
 |some (t,s)=>match yw i h t with
  |some (f o)=>match s,o with
   |true,l=>go
   |false,u=>go
   |_,_=>f (.Q [],n,[])
  |some n=>f (.Q [],n,[])
  |none=>n
section
variable {p:af P}{ac:m (Nat×cq)}{CT:m (Nat×bJ)}
def GM(aV:b0 P ac){j k:ae}{t2:ao}{a4}(g:r.op=.call {callee:=.builtin .append,args:=#[j,k],argTypes:=#[o,t2]})(a:xi ac o t2=f (W,a4)):j0 P r j k W a4:=by
 unfold xi at a;split at a
 .cases a
 rename_i i e;split at a
 .cases a
 rename_i h q;split at a
 case h_2=>cases a
 rename_i W s;split at a
 case h_2=>cases a
 rename_i m b;split at a
 .cases a
 rename_i p;have t:=dn p;subst t;split at a
 .cases a
 rename_i a4 d;split at a
 case h_2=>cases a
 rename_i v w;cases a;exact⟨⟨o,t2,i,h,g,aV o i e,s,aV t2 h q,b⟩,aV _ _ d,by exact lF,by exact lF⟩
def A5(aV:b0 P ac){p h:ae}{t2:ao}{a4}{a:Nat->m O}(j:r.op=.call {callee:=.builtin .append,args:=#[p,h],argTypes:=#[o,t2]})(b:uG ac η h o t2=f (W,a4,z,a)):
  j0 P r p h W a4/\∃d,∀i e g,bv i e g (η h)->Rd e.u g (.R d a4.size z a):=by
 unfold uG at b;split at b
 .cases b
 rename_i t;split at b
 .cases b
 rename_i d v z a k;split at b
 .cases b
 rename_i q;have s:=dn q;subst s;cases b;exact⟨GM aV j t,d,λi e g=>tD k i e g⟩
theorem So(aV:b0 P ac)(z:∀k i m,bZ D k i F m->aS r (yielded all.toArray m.tmps)=l){v w:ae}{t2:ao}{s}(e:r.op=.call {callee:=.builtin .append,args:=#[v,w],argTypes:=#[o,t2]})(a:A1 ac (bE F) v w o t2=f (s,cj))(q:T cj):aK p D all r F k s k:=by
 unfold A1 at a;split at a
 .cases a
 rename_i x A I t d;obtain⟨y,C,b⟩:=A5 aV e d;have b:=λi E=>b k i E;split at a
 .rename_i h j U g;split at a
  .rename_i B;cases a;exact(aK.aZ z (a0.fZ y g (.inr (dn B)) b q.1 q.2)).e1
  grind
 grind
theorem Sp(aV:b0 P ac){E F:ae}{t2:ao}{C}(s:r.op=.call {callee:=.builtin .append,args:=#[E,F],argTypes:=#[o,t2]})(a:A2 ac η k E F o t2=f (C,aq,cj))(e:T cj):a0 P r η k C aq:=by
 unfold A2 at a;split at a
 .cases a
 rename_i J K S D q;obtain⟨i,N,g⟩:=A5 aV s q;have g:=λM R=>g k M R;split at a
 .rename_i h j U b;split at a
  .rename_i bW;rw[hz]at a;cases a;exact a0.fZ i b (.inl (dn bW)) g e.1 e.2
  split at a
  .rename_i W;rw[hz]at a;cases a;exact a0.fZ i b (.inr (dn W)) g e.1 e.2
  grind
 .rename_i d h j U b;split at a
  .rename_i O I m kH gR;split at a
   .rename_i z w A;rw[hz,mN]at a;cases a;obtain⟨t,Q,x⟩:m=j/\kH=U/\_:=e;subst t;subst Q;have v:=dn z;subst v;have y:=dn w;have p:=dn A;subst p;subst y;exact a0.iv i b (er gR) g x
   grind
  grind
 .rename_i d B h j b;split at a
  .rename_i O I m kH gR;split at a
   .rename_i z w A;rw[hz,mN]at a;cases a;obtain⟨t,Q,x⟩:B=m/\j=m/\_:=e;subst t;subst Q;have v:=dn z;subst v;have y:=dn w;have p:=dn A;subst p;subst y;exact a0.im i b (er gR) g x
   grind
  grind
 grind
theorem ZB(aV:b0 P ac){i:ae}{g}(d:r.op=.call {callee:=.builtin .len,args:=#[i],argTypes:=dt})(p:dt[0]?=f o)(a:Dq ac o (η i)=f g):a0 P r η k g k:=by
 unfold Dq at a;split at a
 .cases a
 rename_i t b;split at a
 .rename_i W m;split at a
  .rename_i eO h j U e;cases a;exact a0.jy aV d p b m (λq s=>tD e k q s)
  grind
 .grind [a0.jz]
 grind
theorem S_(aV:b0 P ac){b dst:ao}{v:ae}{s}(i:r.op=.convert b dst v)(a:B7 ac b dst (η v)=f (s,cj))(w:T cj):a0 P r η k s k:=by
 unfold B7 at a;split at a
 .cases a
 rename_i D g;split at a
 .cases a
 rename_i E p;split at a
 .rename_i z e;split at a
  .rename_i h t d;cases a;exact a0.iO aV i g p e d w
  grind
 .rename_i e;split at a
  .grind [a0.iP]
  split at a
  .rename_i W y;split at a
   .rename_i a4 m;split at a
    .rename_i q;split at a
     .rename_i eO h j U o;split at a
      .rename_i bW;have x:=dn bW;subst x;split at a
       .rename_i F B;cases a;exact a0.iL aV i g p y e m q (λA C=>tD o k A C) B
       grind
      grind
     grind
    grind
   grind
  grind
 grind
theorem abV(aV:b0 P ac){d:ae}{e7 bp}{b}(e:r.op=.slice o d e7 bp n)(a:Es ac η o d e7 bp=f (b,cj))(g:T cj):a0 P r η k b k:=by
 unfold Es at a;split at a
 .cases a
 rename_i m h;split at a
 .cases a
 rename_i p j;split at a
 .cases a
 rename_i q i;split at a
 .grind [a0.ki]
 .grind [Nat.eq_of_beq_eq_true,a0.kh,tD]
 grind
theorem A6{a:Array α}{b:α}(d:a.toList=[b]):a=#[b]:=Array.ext' d
theorem A7{a:Array α}{b d:α}(e:a.toList=[b,d]):a=#[b,d]:=Array.ext' e
theorem aag(aV:b0 P ac)(L:a9 p CT){I:y}(s:yX ac CT F r=f (I,cj))(m:T cj)(ba:∀k w g,bZ D k w F g->aS r (yielded all.toArray g.tmps)=l):aK p D all r F k I k:=by
 unfold yX at s;split at s
 .grind [aK.aZ,a0.move]
 .grind [aK.aZ,a0.assign]
 .rename_i o X B a;split at s
  .rename_i e bp;split at s
   .rename_i A;split at s
    .rename_i d h t b Q;cases s;obtain⟨M,K⟩:0<=t/\t<(c d:Int):=m;have:=a0.js (k:=k) (z:=t.toNat) aV a bp A b Q x x;have J:kF d t=d[t.toNat]'x:=by simp[kF,ak,bF (by omega:t.toNat<c d)]
     grind[aK.aZ]
    grind
   grind
  grind
 .rename_i o X B a;split at s
  .rename_i e bp;split at s
   .rename_i W A;split at s
    .rename_i a4 v;split at s
     .rename_i eO h j U S t b Q;split at s
      .rename_i bW;cases s;obtain⟨M,K⟩:0<=t/\t<(j:Int):=m;have J:=dn bW;subst J;exact aK.aZ ba (a0.indexAddr (z:=t.toNat) aV a bp A v (λw V=>tD b k w V) Q x x)
      grind
     grind
    grind
   grind
  grind
 .grind [aK.aZ,abV]
 .grind [aK.aZ,S_]
 .rename_i q a;obtain⟨H,args,E⟩:=q;grind[A6,aK.aZ,ZB,aK.iJ]
 .rename_i q g i bd;split at s
  .exact Pb
  .exact Pb
  grind
 .rename_i op o B Z ty bd;unfold GW at s;split at s
  .grind [aK.aZ,a0.iG]
  .rename_i g i _ O C;split at s
   .split at s
    .rename_i _ _ N R _ _;cases s;exact aK.aZ ba (a0.kr bd O C m.1 m.2)
    .exact zY
    grind
   .exact zY
   .exact zY
   .exact zY
   grind[aK.aZ,a0.binOp]
  .rename_i ah U O C;split at s
   .grind [aK.aZ,a0.kl]
   grind
  grind
 .grind [aK.aZ,a0.unOp]
 .grind [aK.aZ,a0.extract,er]
 .rename_i o B Y bd;split at s
  .rename_i h t G;split at s
   .rename_i d off b;cases s;exact aK.aZ ba (a0.g' aV bd b G)
   .grind [aK.aZ,a0.ha]
   grind
  grind
 .grind [aK.aZ,a0.field]
 .grind [aK.aZ,a0.hI,a0.hJ]
 .grind [aK.aZ,a0.build]
 .grind [aK.aZ,a0.buildSlice]
 .grind [aK.aZ,a0.makeFunc]
 .grind [aK.aZ,a0.makeInterface]
 .grind [aK.aZ,a0.typeAssert]
 grind
theorem aad(aV:b0 P ac){J:y}(a:DO ac F r=f (J,cj))(p:T cj):a0 P r (bE F) k J k:=by
 unfold DO at a;split at a
 .rename_i o v M b;split at a
  .rename_i e bp;split at a
   .rename_i W Q;split at a
    .rename_i a4 m;split at a
     .rename_i d B h K z C t g x;split at a
      .rename_i bW;cases a;obtain⟨O,w⟩:0<=t/\t<(z:Int):=p;grind[Nat.eq_of_beq_eq_true,a0.jq]
      grind
     .rename_i i off j cap C t g x;cases a;obtain⟨O,w⟩:0<=t/\t<(j:Int):=p;grind[a0.jr]
     grind
    grind
   grind
  grind
 .rename_i o v af b;split at a
  .rename_i h t H;split at a
   .rename_i d B aM e K g;cases a;exact a0.ja aV b g H
   .rename_i i off g;cases a;exact a0.jd aV b g H
   grind
  grind
 .grind [a0.jJ]
 .rename_i o v e7 bp b;split at a
  .cases a
  rename_i e D;split at a
  .cases a
  rename_i Y aa;split at a
  .cases a
  grind[Nat.eq_of_beq_eq_true,a0.sliceB]
 .rename_i o v M S b;split at a
  .cases a
  rename_i e D;split at a
  .rename_i W Q;split at a
   .cases a
   rename_i a4 m;split at a
   .rename_i eO h j U A t L z g x G;cases a;obtain⟨O,w,E⟩:0<=t/\t<=z/\z<=(j:Int):=p;exact a0.j9 aV b D Q m (λN R=>tD g k N R) x G O w E
   grind
  grind
 .rename_i o v ag M S b;split at a
  .cases a
  rename_i e D;split at a
  .rename_i W Q;split at a
   .cases a
   rename_i a4 m;split at a
   .rename_i d B h K j ab e A t L z g Z x G;cases a;obtain⟨O,w,E,X⟩:0<=e/\e<=t/\t<=z/\z<=(j:Int):=p;grind[a0.slice3B]
   grind
  grind
 .rename_i q b;obtain⟨V,args,I⟩:=q;simp only at a;split at a
  .split at a
   .rename_i v o g av;split at a
    .rename_i e bp;split at a
     .rename_i W Q;split at a
      .grind [A6,a0.jw]
      .rename_i ae j cap s;cases a;have:=A6 g;subst this;exact a0.jA aV b av bp Q s p
      grind
     grind
    grind
   grind
  grind
 grind
theorem ZG(aV:b0 P ac){s:ae}(b:r.op=.load o s){m}(a:yD ac F k o s=f (m,cj))(g:T cj):a0 P r (bE F) k m k:=by
 unfold yD at a;split at a
 .rename_i t bp;split at a
  .rename_i d B h e w q;split at a
   .rename_i W v j U aI;split at a
    .rename_i bW;have p:=dn bW;subst p;split at a
     .rename_i p i;cases a;exact a0.e8 aV b q g.1 (er aI) bp i g.2
     grind
    grind
   grind
  grind
 grind
theorem acm(aV:b0 P ac){y A:ae}(i:r.op=.store o y A){x}(a:ED ac F k o y A=f (x,aq,cj))(p:T cj):a0 P r (bE F) k x aq:=by
 unfold ED at a;split at a
 .rename_i D bp;split at a
  .rename_i d B h e s q;split at a
   .rename_i W v j U aI;split at a
    .rename_i bW;have C:=dn bW;subst C;split at a
     .rename_i new m;split at a
      .rename_i t;split at a
       .rename_i gO b;split at a
        .rename_i z;rw[hz,mN]at a;cases a;have w:s=0/\c gO=v:=by
          cases s with
          |zero=>exact⟨rfl,dn z⟩
          |succ s=>exact cT
         obtain⟨rfl,w⟩:=w;exact a0.h_ aV i q p.1 (er aI) bp m (dn t) b (λE=>Mz N) p.2
        split at a
        .rename_i ci g;rw[hz,mN]at a;cases a;exact a0.h_ aV i q p.1 (er aI) bp m (dn t) b (λ_=>g) p.2
        grind
       grind
      grind
     grind
    grind
   grind
  grind
 grind
theorem aai(aV:b0 P ac)(h:a9 p CT){d}(a:pt ac CT F k r=f (d,cj))(g:T cj)(m:∀k e b,bZ D k e F b->aS r (yielded all.toArray b.tmps)=l):aK p D all r F k d k:=by
 unfold pt at a;split at a
 .rename_i o q j;split at a
  .rename_i B i;cases a;unfold Dv at i;split at i
   .grind [aK.aZ,a0.hx,er,a0.hz]
   grind
  grind[aK.aZ,ZG]
 grind[aag,aK.aZ,aad]
theorem aae(aV:b0 P ac)(o:a9 p CT){d:y}(e:DR ac CT F k r=f (d,aq,cj))(i:T cj)(m:∀k h a,bZ D k h F a->aS r (yielded all.toArray a.tmps)=l):aK p D all r F k d aq:=by
 unfold DR at e;split at e
 .grind [aK.aZ,DQ]
 .grind [aK.aZ,DQ]
 .grind [aK.aZ,DQ,acm]
 .rename_i q g;obtain⟨j,args,b⟩:=q;grind[A7,aK.aZ,Sp,aK.call]
 grind
def Sq{i m:ae}{a4}{g}(q:j0 P r i m W a4)(a:A3 W a4 η k i m=f (g,aq,cj))(p:T cj):a0 P r η k g aq:=by
 unfold A3 at a;split at a
 .rename_i d B h e A x y t z K D;split at a
  .cases a
  rename_i s;have b:=dn s;subst b;split at a
  .rename_i O M j U gR;split at a
   .rename_i o D6 tp D7;have v:=dn o;have J:=dn D6;have w:=dn tp;have E:=dn D7;rw[hz]at a;cases a;obtain⟨Q,I,C,F⟩:=p;subst Q I v J w E;have:=a0.ir (k:=k) q K D (er gR) C F;grind[mN]
   grind
  grind
 grind
theorem Sr(aV:b0 P ac){D}{p q:ae}{t2:ao}{i}(b:r.op=.call {callee:=.builtin .append,args:=#[p,q],argTypes:=#[o,t2]})(a:A4 D ac η k p q o t2=f (i,aq,cj))(g:T cj):a0 P r η k i aq:=by
 unfold A4 at a;split at a
 .split at a
  .cases a
  rename_i s y E m d;obtain⟨t,A,v⟩:=A5 aV b d;split at a
  .rename_i h j U e;split at a
   .rename_i B;have w:=dn B;subst w;rw[hz]at a;cases a;exact a0.iu t e (λz C=>v _ z C) g
   grind
  grind
 split at a
 .cases a
 rename_i x;exact Sq (GM aV b x) a g
theorem aaf(aV:b0 P ac)(s:a9 p CT){a:y}(b:vI bg ac CT F k r=f (a,aq,cj))(j:T cj)(o:∀k i d,bZ D k i F d->aS r (yielded all.toArray d.tmps)=l):aK p D all r F k a aq:=by
 have key:∀g,yY g ac F k r=f (a,aq,cj)->aK p D all r F k a aq:=by
  intro g b;unfold yY at b;split at b
  .rename_i q h;obtain⟨m,args,e⟩:=q;grind[A7,aK.aZ,Sr]
  grind
 unfold vI at b;grind[aae]
def d_(aV:b0 P ac)(J:a9 p CT){i}{aq}(a:hE ac CT bg all F k r=f (i,aq,cj))(A:T cj):aK p D all r F k i (aq.getD k):=by
 have go:(∀k g d,bZ D k g F d->aS r (yielded all.toArray d.tmps)=l)->(match pt ac CT F k r with
  |some (b,cj)=>match u2 bg r.dst b cj with
   |some (m,y)=>pf m λm=>f (m,n,y)
   |none=>n
  |none=>match Dk bg r.dst with
   |true=>match DP ac F r with
    |some (b,cj)=>pf b λb=>f (b,n,cj)
    |none=>n
   |false=>match vI bg ac CT F k r with
    |some (b,aq,cj)=>pf b λb=>f (b,f aq,cj)
    |none=>n)=f (i,aq,cj)->aK p D all r F k i (aq.getD k):=by
  intro Q a;split at a
  .rename_i b e K;split at a
   .rename_i m z B;rw[vc]at a;cases a;obtain⟨rfl,M⟩:=Tk B A;grind[aai]
   grind
  split at a
  .split at a
   .rename_i b e j;rw[vc]at a;cases a;unfold DP at j;split at j
    .rename_i q x;obtain⟨I,args,s⟩:=q;grind[A7,So]
    grind
   grind
  grind[vc,aaf]
 unfold hE at a;simp only at a;split at a
 .grind [i5]
 rename_i E t v;split at a
 .rename_i w o;have C:∀k g d,bZ D k g F d->aS r (yielded all.toArray d.tmps)=(f w==f t):=λk g d h=>by simp only[aS,v,yx o h]
  split at a
  .grind
  .grind
  cases a;refine aK.hV (λk g d h=>(C k g d h).trans ?_);cases t<;>cases w<;>simp_all
 .rename_i o;cases a;exact aK.hV (λk g d h=>by simp only[aS,v,yx o h];rfl)
 grind
end
variable {CT:m (Nat×bJ)}{av:m il}{be:fB}{ac:m (Nat×cq)}{a4:cq}
def mC(a:bH)(b:ap):Bool:=match b.op with
 |.load _ d=>match bE a d with
  |.n (.ar (.c (.M _)))=>u
  |_=>l
 |_=>u
def aah{fh}(d:mC F r=u):pt ac CT F k r=pt ac CT F fh r:=by
 unfold pt;split
 .rename_i o e a;simp[mC,a]at d;split at d
  .rename_i ah b;simp[Dv,yD,b]
  grind
 simp
def aaj{d}(j:mC F r=u)(a:hE ac CT bg all F k r=f (d,n,cj))(fh):
  hE ac CT bg all F fh r=f (d,n,cj):=by
 unfold hE at a⊢;simp only at a⊢;rw[aah (fh:=k) j];cases i:pt ac CT F k r with
 |some o=>grind
 |none=>
  simp[i]at a⊢;cases h:Dk bg r.dst with
  |true=>grind
  |false=>
   simp[h]at a⊢;have key:∀{g:Option (y×Option (m an)×m Prop)},(match vI bg ac CT F k r with|some (e,b,cj)=>pf e λe=>f (e,f b,cj)|none=>n)=g->g≠f (d,n,cj):=by grind[vc]
   split at a
   .grind
   grind
def jO(a:Nat):m ap->Bool
 |[]=>u
 |e::b=>match e.dst with
  |some d=>match ad d a with|true=>l|false=>jO a b
  |none=>jO a b
theorem vi{o}:∀{d:m ap}{e:Nat}{a:ap},d[e]?=f a->a.dst=f o->jO o d=l
 |[],_,_,s,_=>by grind
 |h::g,0,a,s,b=>by simp at s;subst s;simp[jO,b,sz]
 |h::g,e+1,a,s,b=>by have:=vi (d:=g) wI b;simp[jO];grind
theorem C'{o}:∀{b:m ap},jO o b=l->∃(e:Nat)(r:ap),b[e]?=f r/\r.dst=f o
 |[],s=>by cases s
 |d::j,s=>by
  simp[jO]at s;split at s
  .rename_i g q;split at s
   .rename_i h;exact⟨0,d,a,by grind[Nat.eq_of_beq_eq_true]⟩
   exact Rc
  exact Rc
def kN:m ap->Bool
 |[]=>l
 |d::a=>match d.dst with
  |some b=>match jO b a with|true=>u|false=>kN a
  |none=>kN a
theorem DN{o}:∀{k:m ap}{g h:Nat}{b d:ap},kN k=l->k[g]?=f b->k[h]?=f d->b.dst=f o->d.dst=f o->g=h
 |[],_,_,_,_,_,t,_,_,_=>by grind
 |p::e,0,0,_,_,_,_,_,_,_=>rfl
 |p::e,0,h+1,b,d,a,i,j,d1,d2=>by simp at i;subst i;simp[kN,d1]at a;grind[vi]
 |p::e,g+1,0,b,d,a,i,j,d1,d2=>by simp at j;subst j;simp[kN,d2]at a;grind[vi]
 |p::e,g+1,h+1,b,d,a,i,j,d1,d2=>by
  have:kN e=l:=by simp[kN]at a;grind
  have r:e[g]?=f b:=N;have q:e[h]?=f d:=N;have s:=DN this r q d1 d2;omega
def mK(a:m ap):bH->bH
 |[]=>[]
 |(d,e)::b=>match jO d a with|true=>mK a b|false=>(d,e)::mK a b
def te{all}{o}:∀{b:bH},look (mK all b) o=if jO o all=l then .any else look b o
 |[]=>by simp[mK,look]
 |(a,i)::j=>by
  simp[mK];by_cases g:ad a o=l
  .have h:=dn g;subst h;cases e:jO a all with
   |true=>simp only;rw[te];grind
   |false=>simp[look]
  have d:ad a o=u:=N;cases e:jO a all with
  |true=>simp only;rw[te];simp[look,d]
  |false=>simp[look,d,cond];rw[te]
def c_:m Edge->m Nat
 |[]=>[]
 |b::a=>match b.ground with
  |.textOnly _=>c_ a
  |.gcOnly _=>c_ a
  |_=>b.on::c_ a
theorem lY{t}:∀{d:m Edge},t∈c_ d↔∃a∈d,eS a=l/\a.on=t
 |[]=>by simp[c_]
 |a::b=>by
  have k:=lY (t:=t) (d:=b);have h:c_ (a::b)=a.on::c_ b->eS a=l->(t∈c_ (a::b)↔∃e∈a::b,eS e=l/\e.on=t):=N;have g:c_ (a::b)=c_ b->eS a=u->(t∈c_ (a::b)↔∃e∈a::b,eS e=l/\e.on=t):=N;cases i:a.ground with
  |textOnly j=>exact g F' NZ
  |gcOnly j=>exact g F' NZ
  |_=>exact h F' (by unfold eS Region.binds;rw[i])
def nq(a b:Nat):m ap->Bool
 |[]=>u
 |e::d=>match e.dst with
  |some g=>match ad g b with
   |true=>match eg a (c_ e.after.toList)with
    |true=>nq a b d
    |false=>l
   |false=>nq a b d
  |none=>nq a b d
def J5{e o}:∀{i:m ap},nq e o i=u->∀(d:Nat)a,i[d]?=f a->a.dst=f o->eg e (c_ a.after.toList)=l
 |[],_,d,a,b,_=>by grind
 |k::j,b,0,a,h,g=>by simp at h;subst h;simp[nq,g,sz]at b;grind
 |k::j,b,d+1,a,h,g=>by
  have:nq e o j=u:=by simp[nq]at b;grind
  exact J5 this d a N g
def oA(a:m ap):bH->m (Nat×y×Bool)
 |[]=>[]
 |(b,d)::e=>match jO b a with
  |true=>(b,d,l)::oA a e
  |false=>(b,d,u)::oA a e
def hh(b:Nat)(a:m ap):m (Nat×y×Bool)->bH
 |[]=>[]
 |(e,g,h)::d=>match h with
  |false=>(e,g)::hh b a d
  |true=>match nq b e a with
   |true=>hh b a d
   |false=>(e,g)::hh b a d
def KC{e}{all}{o}:∀{F:bH},look (hh e all (oA all F)) o=if jO o all=l/\nq e o all=l then .any else look F o
 |[]=>by simp[oA,hh,look]
 |(bz,b)::a=>by
  have h:=KC (e:=e) (all:=all) (o:=o) (F:=a);have g:look ((bz,b)::hh e all (oA all a)) o=if ad bz o=l then b else look (hh e all (oA all a)) o:=RJ;have d:look ((bz,b)::a) o=if ad bz o=l then b else look a o:=RJ;cases w:jO bz all with
  |false=>
   simp[oA,w,hh];exact t_
  |true=>
   cases aj:nq e bz all with
   |true=>
    exact OH
   |false=>
    exact OH
def fV(d:Nat->Bool):Nat->m (Option Nat×y)->bH->bH
 |_,[],a=>a
 |b,(g,i)::e,a=>match d b with
  |true=>match g with
   |some h=>(h,i)::fV d (b+1) e a
   |none=>fV d (b+1) e a
  |false=>fV d (b+1) e a
def vz{z:Nat->Bool}{F}{o}:∀{d:m (Option Nat×y)}{e:Nat},(∃t b,d[t]?=f (f o,b)/\z (e+t)=l/\look (fV z e d F) o=b)∨look (fV z e d F) o=look F o
 |[],e=>.inr rfl
 |(h,b)::g,e=>by
  have v:=vz (z:=z) (F:=F) (o:=o) (d:=g) (e:=e+1);have step:look (fV z e ((h,b)::g) F) o=look (fV z (e+1) g F) o->((∃t i,((h,b)::g)[t]?=f (f o,i)/\z (e+t)=l/\look (fV z e ((h,b)::g) F) o=i)∨look (fV z e ((h,b)::g) F) o=look F o):=by
   intro p;rw[p];rcases v with⟨t,i,r,j,B⟩|x
   .exact .inl ⟨t+1,i,by grind,by grind,B⟩
   grind
  cases k:z e with
  |false=>exact step (by simp[fV,k])
  |true=>
   cases h with
   |none=>exact step (by simp[fV,k])
   |some q=>
    by_cases w:ad q o=l
    .have p:=dn w;subst p;exact .inl ⟨0,b,a,by grind,by simp[fV,k,look]⟩
    have s:ad q o=u:=N;exact step (by simp[fV,k,look,s])
structure kW where
 a8:Nat
 pre:m (Option Nat×y)
 b:m an
 cc:m (m Bool)
 dB:m Bool
 dE:m Bool
 cz:m Prop
def tf(a:Nat):m Nat->Bool
 |[]=>l
 |b::d=>match Nat.blt b a with|true=>tf a d|false=>u
def Dx{e}:∀{g:m Nat},tf e g=l->∀d∈g,d<e
 |[],_,d,b=>by grind
 |i::j,b,d,a=>by
  simp[tf]at b;cases h:Nat.blt i e with
  |false=>grind
  |true=>
   simp[h]at b;rcases fa.1 a with rfl|a
   .simp_all
   exact Dx b d a
def gy:m Bool->Nat->Bool
 |[],_=>u
 |a::_,0=>a
 |_::d,b+1=>gy d b
def jR:m Bool->m Bool->m Bool
 |[],b=>b
 |true::a,[]=>l::a
 |false::a,[]=>u::a
 |true::a,_::b=>l::jR a b
 |false::a,l::b=>l::jR a b
 |false::a,u::b=>u::jR a b
def qf:∀{a b:m Bool}{d:Nat},gy (jR a b) d=(gy a d||gy b d)
 |[],b,d=>by exact cT
 |true::a,[],d=>by simp[jR,gy]
 |false::a,[],d=>by simp[jR,gy]
 |true::a,e::b,0=>by exact cT
 |true::a,e::b,d+1=>by simp[jR,gy];exact qf
 |false::a,l::b,0=>by exact cT
 |false::a,l::b,d+1=>by simp[jR,gy];exact qf
 |false::a,u::b,0=>by exact cT
 |false::a,u::b,d+1=>by simp[jR,gy];exact qf
def nB:Nat->m Bool
 |0=>[l]
 |a+1=>u::nB a
theorem xp:∀{b a:Nat},gy (nB b) a=decide (b=a)
 |0,0=>rfl
 |0,a+1=>by exact cT
 |b+1,0=>by exact cT
 |b+1,a+1=>by simp only[nB,gy,xp];simp
def lH(a:m (m Bool)):m Nat->m Bool
 |[]=>[]
 |b::d=>match c' b a with
  |some e=>jR (jR e (nB b)) (lH a d)
  |none=>jR (nB b) (lH a d)
theorem B1{i}{t}:∀{k:m Nat},gy (lH i k) t=l->∃d∈k,d=t∨∃b,i[d]?=f b/\gy b t=l
 |[],a=>by exact cT
 |d::o,a=>by
  simp[lH,lg]at a;have qU:∀{j:Nat},gy (nB d) j=l->d=j:=by grind[xp]
  have h:gy (lH i o) t=l->∃g∈d::o,g=t∨∃b,i[g]?=f b/\gy b t=l:=by intro a;obtain⟨g,q,p⟩:=B1 a;grind
  split at a
  .rename_i b e;rw[qf,qf,jE,jE]at a;grind
  rw[qf,jE]at a;grind
def pH:m Bool->m Bool->Bool
 |[],_=>l
 |true::a,l::b=>pH a b
 |true::_,_=>u
 |false::a,_::b=>pH a b
 |false::a,[]=>pH a []
theorem tH:∀{b d:m Bool}{t:Nat},pH b d=l->gy b t=l->gy d t=l
 |[],d,t,_,a=>by exact cT
 |true::b,l::d,0,_,_=>rfl
 |true::b,l::d,t+1,e,a=>by simp[gy]at a⊢;exact tH cT a
 |true::b,u::d,t,e,_=>by exact cT
 |true::b,[],t,e,_=>by exact cT
 |false::b,g::d,0,_,a=>by exact cT
 |false::b,g::d,t+1,e,a=>by simp[gy]at a⊢;exact tH cT a
 |false::b,[],0,_,a=>by exact cT
 |false::b,[],t+1,e,a=>by simp[gy]at a;have:=tH (t:=t) (by simpa[pH]using e) a;exact cT
def pF(v:m (Nat×cq))(o:m (Nat×bJ))(t:Nat)(q:m (Nat×Bool))(e:m ap)(k:m (Nat×y×Bool))(a:kW)(j:ap):Option kW:=
 match fp t j.dst with
 |false=>n
 |true=>
  e0 (c_ j.after.toList) λh=>
  match tf a.a8 h with
  |false=>n
  |true=>match hE v o q e (fV (λr=>eg r h) 0 a.pre (hh a.a8 e k)) a.b j with
   |none=>n
   |some (s,i,b)=>
    e0 (lH a.cc h) λg=>
    match i,mC (fV (λr=>eg r h) 0 a.pre (hh a.a8 e k)) j with
    |none,u=>e0 (a.pre++[(j.dst,s)]) λpre=>e0 (a.cc++[g]) λd=>e0 (gN b a.cz) λb=>f ⟨a.a8+1,pre,a.b,d,a.dB,a.dE,b⟩
    |none,l=>match pH a.dB g with
     |true=>e0 (a.pre++[(j.dst,s)]) λpre=>e0 (a.cc++[g]) λd=>e0 (gN b a.cz) λb=>e0 (jR a.dE (nB a.a8)) λp=>f ⟨a.a8+1,pre,a.b,d,a.dB,p,b⟩
     |false=>n
    |some i,_=>match pH a.dE g with
     |true=>e0 (a.pre++[(j.dst,s)]) λpre=>e0 (a.cc++[g]) λd=>e0 (gN b a.cz) λb=>e0 (jR a.dE (nB a.a8)) λp=>e0 (jR a.dB (nB a.a8)) λw=>f ⟨a.a8+1,pre,i,d,w,p,b⟩
     |false=>n
def zc(j:m (Nat×cq))(d:m (Nat×bJ))(i:Nat)(g:m (Nat×Bool))(a:m ap)(e:m (Nat×y×Bool)):m ap->kW->Option kW
 |[],b=>f b
 |k::o,b=>match pF j d i g a e b k with
  |some h=>zc j d i g a e o h
  |none=>n
def x6(k:m (Nat×cq))(d:m (Nat×bJ))(j:Nat)(h:m (Nat×Bool))(a:m ap)(i:bH)(o:m an):Option (bH×m an×m Prop):=
 match kN a with
 |false=>n
 |true=>e0 (oA a i) λg=>match zc k d j h a g a ⟨0,[],o,[],[],[],[]⟩with
  |some b=>e0 (fV (λ_=>l) 0 b.pre (mK a i)) λe=>f (e,b.b,b.cz)
  |none=>n
def ew:ap:=⟨n,.move (.tmp 0),0,"",#[],n⟩
section
variable (ac:m (Nat×cq))(CT:m (Nat×bJ))(D:Nat)(bg:m (Nat×Bool))(all:m ap)(cI:m (Nat×y×Bool))
def jG(a:kW):Nat->kW
 |0=>a
 |b+1=>(pF ac CT D bg all cI (jG a b) (all.getD b ew)).getD (jG a b)
def qt(a:kW)(b:Nat):bH:=fV (λd=>eg d (c_ (all.getD b ew).after.toList)) 0 (jG ac CT D bg all cI a b).pre (hh (jG ac CT D bg all cI a b).a8 all cI)
def zb(a:kW)(b:Nat):Option (y×Option (m an)×m Prop):=hE ac CT bg all (qt ac CT D bg all cI a b) (jG ac CT D bg all cI a b).b (all.getD b ew)
def qW(a:kW)(b:Nat):y:=match zb ac CT D bg all cI a b with|some (d,_,_)=>d|none=>.any
def jk(a:kW)(b:Nat):Bool:=match zb ac CT D bg all cI a b with|some (_,f _,_)=>l|_=>u
def qv(a:kW)(b:Nat):Bool:=!mC (qt ac CT D bg all cI a b) (all.getD b ew)&&!jk ac CT D bg all cI a b
def qj(a:kW)(b:Nat):m Bool:=lH (jG ac CT D bg all cI a b).cc (c_ (all.getD b ew).after.toList)
end
section
variable {ac:m (Nat×cq)}{CT:m (Nat×bJ)}{D:Nat}{bg:m (Nat×Bool)}{all:m ap}{cI:m (Nat×y×Bool)}
structure Gl(ac:m (Nat×cq))(CT:m (Nat×bJ))(D:Nat)(bg:m (Nat×Bool))(all:m ap)(cI:m (Nat×y×Bool))(b_ r1:kW)(r:ap)(C:y)(aq:Option (m an))(cz:m Prop):Prop where
 dst:fp D r.dst=l
 lt:tf b_.a8 (c_ r.after.toList)=l
 op:hE ac CT bg all (fV (λt=>eg t (c_ r.after.toList)) 0 b_.pre (hh b_.a8 all cI)) b_.b r=f (C,aq,cz)
 a8:r1.a8=b_.a8+1
 pre:r1.pre=b_.pre++[(r.dst,C)]
 cc:r1.cc=b_.cc++[lH b_.cc (c_ r.after.toList)]
 b:r1.b=aq.getD b_.b
 cz:r1.cz=gN cz b_.cz
 iU:r1.dB=if aq.isSome=l then jR b_.dB (nB b_.a8)else b_.dB
 jI:r1.dE=if(mC (fV (λt=>eg t (c_ r.after.toList)) 0 b_.pre (hh b_.a8 all cI)) r||aq.isSome)=l then jR b_.dE (nB b_.a8)else b_.dE
 load:mC (fV (λt=>eg t (c_ r.after.toList)) 0 b_.pre (hh b_.a8 all cI)) r=l->aq.isSome=u->pH b_.dB (lH b_.cc (c_ r.after.toList))=l
 ca:aq.isSome=l->pH b_.dE (lH b_.cc (c_ r.after.toList))=l
def MD{b_ h}(b:pF ac CT D bg all cI b_ r=f h):∃k d g,Gl ac CT D bg all cI b_ h r k d g:=by
 unfold pF at b;split at b
 .cases b
 rename_i j;simp[hz]at b;split at b
 .cases b
 rename_i i;split at b
 .cases b
 rename_i k d g e;refine⟨k,d,g,?_⟩;cases d with
 |none=>
  cases m:mC (fV (λo=>eg o (c_ r.after.toList)) 0 b_.pre (hh b_.a8 all cI)) r with
  |false=>
   simp[m,hz]at b;cases b;exact⟨j,i,e,a,a,a,a,a,by simp,by grind,by grind,by simp⟩
  |true=>
   simp[m,hz]at b;split at b
   .rename_i q;cases b;exact⟨j,i,e,a,a,a,a,a,by simp,by grind,λ_ _=>q,by simp⟩
   grind
 |some d=>
  simp[hz]at b;split at b
  .rename_i q;cases b;exact⟨j,i,e,a,a,a,a,a,by simp,by simp,by simp,λ_=>q⟩
  grind
def L9{b_ d}:∀{br:m ap}{h:Nat},(∀a,br[a]?=all[h+a]?)->zc ac CT D bg all cI br (jG ac CT D bg all cI b_ h)=f d ->
  (∀a g,br[a]?=f g->pF ac CT D bg all cI (jG ac CT D bg all cI b_ (h+a)) g=f (jG ac CT D bg all cI b_ (h+a+1)))/\jG ac CT D bg all cI b_ (h+c br)=d
 |[],h,_,b=>by cases b;grind
 |p::q,h,e,b=>by
  simp[zc]at b;have k:all[h]?=f p:=by have:=e 0;grind
  split at b
  .rename_i i j;have o:jG ac CT D bg all cI b_ (h+1)=i:=by simp[jG,ak,k,h5,j]
   rw[<-o]at b;obtain⟨s,r⟩:=L9 (br:=q) (h:=h+1) (λa=>by have:=e (a+1);grind) b;grind
  grind
theorem qG:∀{a:m Nat},eg t a=l->t∈a:=by
 intro a;induction a with
 |nil=>intro b;cases b
 |cons d g e=>
  intro b;simp[eg]at b;exact t_
def Ts{aR:af P}(a5:P.follows Departure.mixedOrders=l)(aV:b0 P ac)(aT:a9 aR CT){aQ}(t:x6 ac CT D bg aF.toList F k=f (aQ,aq,cj))(bK:T cj){aM}(bE:aM .normal aQ aq)(id):
  b2 aR D (.region id aF l) aM F k:=by
 unfold x6 at t;split at t
 .cases t
 rename_i bn;rw[hz]at t;split at t
 case h_2=>cases t
 rename_i ah aE;rw[hz]at t;cases t;generalize bG:aF.toList=g at *;generalize aG:oA g F=cI at *;have bt:∀e:Nat,aF[e]?=g[e]?:=λe=>by grind
 have bd:aF.size=c g:=N;let m:kW:=⟨0,[],k,[],[],[],[]⟩
 obtain⟨bR,bS⟩:=L9 (ac:=ac) (CT:=CT) (D:=D) (bg:=bg) (cI:=cI) (b_:=m) (br:=g) (h:=0) (λe=>by simp) aE;simp only[cW]at bR bS;let j:=jG ac CT D bg g cI m;have aN:∀e r,g[e]?=f r->g.getD e ew=r:=λe r t=>by grind
 have ai:∀e r,g[e]?=f r->qt ac CT D bg g cI m e=(fV (λi=>eg i (c_ (r).after.toList)) 0 (j e).pre (hh (j e).a8 g cI)):=λe r t=>by unfold qt;grind
 have C:∀e r,g[e]?=f r->∃bq,Gl ac CT D bg g cI (j e) (j (e+1)) r (qW ac CT D bg g cI m e) (if jk ac CT D bg g cI m e=l then f (j (e+1)).b else n) bq:=by
  intro e r cz;obtain⟨aO,A,bq,p⟩:=MD (bR e r cz);have aL:=p.op;have az:zb ac CT D bg g cI m e=f (aO,A,bq):=by unfold zb qt;grind
  have bM:qW ac CT D bg g cI m e=aO:=by unfold qW;rw[az]
  cases A with
  |none=>
   have Q:jk ac CT D bg g cI m e=u:=by unfold jk;rw[az]
   grind
  |some bk=>
   have Q:jk ac CT D bg g cI m e=l:=by unfold jk;rw[az]
   have bN:(j (e+1)).b=bk:=p.b;grind
 have bs:∀e,e<=c g->(j e).a8=e:=by
  intro e;induction e with
  |zero=>intro _;rfl
  |succ e O=>
   intro bp;obtain⟨_,p⟩:=C e _ (bF x);rw[p.a8,O x]
 have W:∀e,e<=c g->∀i,(j e).pre[i]?=if i<e then(g[i]?).map (λr=>(r.dst,qW ac CT D bg g cI m i))else n:=by
  intro e;induction e with
  |zero=>intro _ i;exact cT
  |succ e O=>
   intro bp i;obtain⟨_,p⟩:=C e _ (bF x);have U:(j e).pre.length=e:=by
    apply Nat.le_antisymm
    .grind
    grind
   rw[p.pre];grind
 have aw:∀e,e<=c g->∀i,(j e).cc[i]?=if i<e then f (qj ac CT D bg g cI m i)else n:=by
  intro e;induction e with
  |zero=>intro _ i;exact cT
  |succ e O=>
   intro bp i;obtain⟨_,p⟩:=C e _ (bF x);have U:(j e).cc.length=e:=by
    apply Nat.le_antisymm
    .apply Nat.le_of_not_lt;intro aJ;have:=O x e;grind
    grind
   rw[p.cc];by_cases S:i<e
   .grind
   rw[hn x];by_cases q:i=e
   .subst q;rw[bo x,U,sx];simp only[mf,qj,aN i _ (bF (by omega:i<c g))];rfl
   grind
 have bz:∀e,e<=c g->∀i,gy (j e).dB i=(decide (i<e)&&jk ac CT D bg g cI m i):=by
  intro e;induction e with
  |zero=>intro _ i;exact cT
  |succ e O=>
   intro bp i;obtain⟨_,p⟩:=C e _ (bF x);rw[p.iU];cases Q:jk ac CT D bg g cI m e with
   |false=>
    grind
   |true=>
    simp only[dH,Option.isSome_some];rw[qf,O x i,xp,bs e x];by_cases q:i=e
    .grind
    grind
 have bf:∀e,e<=c g->∀i,gy (j e).dE i=(decide (i<e)&&!qv ac CT D bg g cI m i):=by
  intro e;induction e with
  |zero=>intro _ i;exact cT
  |succ e O=>
   intro bp i;obtain⟨_,p⟩:=C e _ (bF x);have ag:(if jk ac CT D bg g cI m e=l then f (j (e+1)).b else n).isSome=jk ac CT D bg g cI m e:=by cases jk ac CT D bg g cI m e<;>rfl
   have an:qv ac CT D bg g cI m e=!(mC (fV (λi=>eg i (c_ (g[e]'x).after.toList)) 0 (j e).pre (hh (j e).a8 g cI)) (g[e]'x)||jk ac CT D bg g cI m e):=by unfold qv;rw[ai e _ (bF x),aN e _ (bF x)];simp
   rw[p.jI,ag];cases Q:(mC (fV (λi=>eg i (c_ (g[e]'x).after.toList)) 0 (j e).pre (hh (j e).a8 g cI)) (g[e]'x)||jk ac CT D bg g cI m e)with
   |false=>
    grind
   |true=>
    simp only[dH];rw[qf,O x i,xp,bs e x];by_cases q:i=e
    .grind
    grind
 have V:∀e,e<=c g->T (j e).cz:=by
  have av:∀h e,e+h=c g->T (j e).cz:=by
   intro h;induction h with
   |zero=>
    grind
   |succ h O=>
    intro e bp;obtain⟨_,p⟩:=C e _ (bF x);have:=O (e+1) x;rw[p.cz,T.X]at this;exact this.2
  intro e bp;exact av (c g-e) e x
 have b5:∀e r,g[e]?=f r->aK aR D g r (qt ac CT D bg g cI m e) (j e).b (qW ac CT D bg g cI m e) (j (e+1)).b:=by intro e r cz;have bp:e<c g:=(cO.1 cz).1;obtain⟨_,p⟩:=C e r cz;have ns:=V (e+1) x;rw[p.cz,T.X]at ns;have:=d_ (P:=P) (D:=D) aV aT p.op ns.1;rw[p.b];grind
 let idx:Nat->Option Nat:=λo=>(aA (c g)).find? (λe=>decide ((g.getD e ew).dst=f o));have b6:∀o i,idx o=f i->∃r,g[i]?=f r/\r.dst=f o:=N;have bQ:∀e r ax,g[e]?=f r->r.dst=f ax->idx ax=f e:=by
  intro e r ax cz M;have bp:e<c g:=(cO.1 cz).1;cases bM:idx ax with
  |none=>
   grind
  |some i=>
   grind[DN]
 have b9:∀o,jO o g=l↔∃i,idx o=f i:=by grind[C',vi]
 have b8:∀e r,g[e]?=f r->∀q∈r.after,eS q=l->q.on<e:=by intro e r cz q Q Y;have bp:e<c g:=(cO.1 cz).1;obtain⟨_,p⟩:=C e r cz;have:=Dx p.lt q.on (lY.2 ⟨q,by grind,Y,rfl⟩);grind
 have bm:=b8;have M:q' aR D aF F (λe=>(j e).b) (qW ac CT D bg g cI m) (qt ac CT D bg g cI m) (qv ac CT D bg g cI m) (λe=>decide (e<c g)&&jk ac CT D bg g cI m e) (λe i=>e<c g/\gy (qj ac CT D bg g cI m e) i=l) idx (fV (λ_=>l) 0 ah.pre (mK g F)):=by
  refine⟨a5,N,?_,?_,?_,?_,?_,?_,?_,?_,?_⟩
  .intro e r ax cz M;rw[bt]at cz;obtain⟨_,p⟩:=C e r cz;exact⟨bQ e r ax cz M,k_ p.dst ax M⟩
  .grind
  .intro e Q;rcases dW e (c g) with bp|bp
   .obtain⟨_,p⟩:=C e _ (bF bp);have:jk ac CT D bg g cI m e=u:=N;have b4:=p.b;grind
   have bA:g.getD e ew=ew:=N;show(j (e+1)).b=(j e).b;have:pF ac CT D bg g cI (j e) ew=n∨∃aI,pF ac CT D bg g cI (j e) ew=f aI:=by
    cases pF ac CT D bg g cI (j e) ew with
    |none=>grind
    |some aI=>grind
   show((pF ac CT D bg g cI (j e) (g.getD e ew)).getD (j e)).b=(j e).b;rw[bA];rcases this with t|⟨aI,t⟩
   .grind
   rw[t];obtain⟨aO,A,bO,p⟩:=MD t;have aL:=p.op;have:A=n:=by unfold hE at aL;simp only[ew,pt,yX,u2,vc]at aL;grind
   rw[h5,p.b,this];rfl
  .grind
  .intro e r cz ae;rw[bt]at cz;have bp:e<c g:=(cO.1 cz).1;have aH:mC (fV (λi=>eg i (c_ (r).after.toList)) 0 (j e).pre (hh (j e).a8 g cI)) r=u/\jk ac CT D bg g cI m e=u:=by unfold qv at ae;grind
   refine⟨by grind,λh=>?_⟩;obtain⟨bO,p⟩:=C e r cz;have aL:=p.op;rw[aH.2]at aL;have aD:=aaj aH.1 (by simpa using aL) (j h).b;have ns:=V (e+1) x;rw[p.cz,T.X]at ns;have:=d_ (P:=P) (D:=D) aV aT aD ns.1;grind
  .intro L cd e i ⟨bp,Y⟩;have aj:∀e,e<c g->L e->∀q,q∈c_ (g.getD e ew).after.toList->L q:=by intro e bp al q Q;rw[aN e _ (bF bp)]at Q;obtain⟨bx,s,v,rfl⟩:=lY.1 Q;grind
   have key:∀e,e<c g->∀i,gy (qj ac CT D bg g cI m e) i=l->(∀q∈c_ (g.getD e ew).after.toList,L q)->L i:=by
    intro e;induction e using Nat.strongRecOn with
    |_ e O=>
     intro bp i Y aW;obtain⟨q,Q,t⟩:=B1 Y;have aJ:q<e:=by have R:=Q;rw[aN e _ (bF bp)]at R;obtain⟨bx,s,v,rfl⟩:=lY.1 R;grind
     rcases t with rfl|⟨bU,bH,a1⟩
     .grind
     have:=aw e x q;rw[bo aJ]at this;have a0:(j e).cc[q]?=f bU:=bH;rw[a0]at this;cases this;exact O q aJ x i a1 (aj q x (aW q Q))
   refine⟨λal=>key e bp i Y (aj e bp al),g[e],by grind,λbL=>key e bp i Y ?_⟩;grind[List.getElem?_eq_getElem,lY]
  .intro e Z bp y Q bZ ar;rw[bd]at bp y;have R:jk ac CT D bg g cI m Z=l:=N;rcases dW Z e with aJ|bY
   .refine .inl ⟨aJ,bp,?_⟩;obtain⟨_,p⟩:=C e _ (bF bp);have K:qj ac CT D bg g cI m e=lH (j e).cc (c_ (g[e]).after.toList):=by unfold qj;grind
    rw[K];cases a3:jk ac CT D bg g cI m e with
    |true=>
     have s:=p.ca N;refine tH s ?_;rw[bf e x Z];have:qv ac CT D bg g cI m Z=u:=by unfold qv;grind
     grind
    |false=>
     have a7:mC (fV (λi=>eg i (c_ (g[e]).after.toList)) 0 (j e).pre (hh (j e).a8 g cI)) g[e]=l:=by unfold qv at ar;rw[ai e _ (bF bp),aN e _ (bF bp),a3]at ar;grind
     have s:=p.load a7 N;grind[tH]
   have aJ:e<Z:=x;refine .inr ⟨aJ,y,?_⟩;obtain⟨_,p⟩:=C Z _ (bF y);have K:qj ac CT D bg g cI m Z=lH (j Z).cc (c_ (g[Z]).after.toList):=by unfold qj;grind
   rw[K];have s:=p.ca N;grind[tH]
  .intro e r cz o k b aa ab;rw[bt]at cz;have bp:e<c g:=(cO.1 cz).1;unfold qt;rw[aN e r cz];rcases vz (z:=λi=>eg i (c_ r.after.toList)) (F:=hh (j e).a8 g cI) (o:=o) (d:=(j e).pre) (e:=0)with⟨i,aO,s,v,w⟩|w
   .have J:look (fV (λi=>eg i (c_ r.after.toList)) 0 (jG ac CT D bg g cI m e).pre (hh (jG ac CT D bg g cI m e).a8 g cI)) o=aO:=w;rw[J];have B:=W e x i;rw[s]at B;have S:i<e:=N;rw[bo S,bF (by omega:i<c g)]at B;simp only[lC,e4,lD]at B;obtain⟨bb,b3⟩:=B;have aP:=bQ i _ o (bF (by omega:i<c g)) bb.symm;rw[aP]at ab;simp only at ab;rw[bo]at ab
    .grind
    have aC:i∈c_ r.after.toList:=by simp only[cW]at v;exact qG v
    obtain⟨q,bT,b',bU⟩:=lY.1 aC;grind
   have J:look (fV (λi=>eg i (c_ r.after.toList)) 0 (jG ac CT D bg g cI m e).pre (hh (jG ac CT D bg g cI m e).a8 g cI)) o=look (hh (j e).a8 g cI) o:=w;rw[J,bs e x,<-aG,KC];split
   .trivial
   rename_i b1;cases aP:idx o with
   |some i=>
    have cc:=(b9 o).2 ⟨i,aP⟩;have bD:nq e o g=u:=N;obtain⟨bh,ba,a2⟩:=b6 o i aP;have bJ:=qG (J5 bD i bh ba a2);obtain⟨q,Q,Y,heq⟩:=lY.1 bJ;rw[aP]at ab;simp only at ab;split at ab
    ·
     rename_i a4;obtain⟨cb,bW,bV,bI⟩:=a4;grind
    rw[bo ⟨bh,by grind,q,by grind,Y,heq⟩]at ab;exact ab
   |none=>grind
  intro o k b aa ab;have bC:j (c g)=ah:=bS;rcases vz (z:=λ_=>l) (F:=mK g F) (o:=o) (d:=ah.pre) (e:=0)with⟨i,aO,s,_,w⟩|w
  .rw[w];have B:=W (c g) (bB _) i;rw[bC,s]at B;have S:i<c g:=N;grind
  rw[w,te];split
  .trivial
  grind
 intro b bT an a6 b' cf ca b7 Y aZ;have aU:j aF.size=ah:=N;refine .next a λI H=>?_;have H:=aR.bM H;have G:=a6.rely H;have aB:=an.rely H a6;have X:cN k I k {I with a:={I.a with drawn:=I.a.drawn+1}}:=cN.same rfl rfl rfl rfl;have ao:bc k {I with a:={I.a with drawn:=I.a.drawn+1}}:=G.same rfl;have bj:=H.aH.trans (X.too1 G);refine⟨_,{I with a:={I.a with drawn:=I.a.drawn+1}},#[],Eo,⟨⟨k,k,G,ao,X⟩,.nil⟩,?_⟩;simp only[Region.schedule,a5,Bool.true_or,dH];refine M.eP Y (cG:={I with a:={I.a with drawn:=I.a.drawn+1}}) (λbP bu aS v au=>?_) aF.size _ E ?_ ?_ 0 _ bT x ?_ ?_ ao (.refl _ _) _
 .simp only[aU]at aS v au;exact aZ .normal _ _ bP bu bE aS v (bj.trans au)
 .simp
 .exact FN
 .intro Z y bX;exact wC
 have aH:=aB.mono (X.too1 G) G.len;refine⟨aH.size,aH.defers,λo=>?_⟩;unfold gH;cases aP:idx o with
 |none=>exact aH.al o
 |some i=>
  simp only;rw[bl]
  .exact aH.al o
  exact wC
end
section
variable {p:af P}
theorem g.iS(e:P.follows Departure.mixedOrders=l)(aV:b0 P ac)(b:a9 p CT){a}{id}(h:x6 ac CT D bg aF.toList F k=f (a,aq,cj))(d:T cj)(i:g p D be av .normal a aq):g p D be (.code (.region id aF l)::av) .normal F k:=
 Ts e aV b h d i id
end
def r2(x:m (Nat×cq))(p:m (Nat×bJ))(k:m (Nat×Bool))(w:Nat)(b:m il)(a:bH)(e:m an):Option (m il×bH×m an×m Prop):=
 match b with
 |[]=>n
 |.blk _::b=>f (b,a,e,[])
 |.S _ []::b=>f (b,a,e,[])
 |.S g (q::i)::b=>match fp w q.dst with
  |true=>match hE x p k g a e q with
   |some (o,n,d)=>e0 (gf q.dst o a) λa=>f (.S g i::b,a,e,d)
   |some (o,f j,d)=>e0 (gf q.dst o a) λa=>f (.S g i::b,a,j,d)
   |none=>n
  |false=>n
 |.code t::b=>match t with
  |.skip=>f (b,a,e,[])
  |.seq o v=>f (.code o::.code v::b,a,e,[])
  |.block id t=>f (.code t::.blk id::b,a,e,[])
  |.region id h y=>match vy k (id+900)with
   |some _=>n
   |none=>match y with
    |false=>f (.S h.toList h.toList::b,a,e,[])
    |true=>match x6 x p w k h.toList a e with
     |some (r,j,d)=>f (b,r,j,d)
     |none=>n
  |.exit id=>match iR id b with
   |some s=>f (s,a,e,[])
   |none=>n
  |.cond (.tmp z) o v=>match look a z with
   |.n (.ar (.c (.bool l)))=>f (.code o::b,a,e,[])
   |.n (.ar (.c (.bool u)))=>f (.code v::b,a,e,[])
   |_=>n
  |_=>n
theorem ace{d:af P}(p:P.follows Departure.mixedOrders=l)(aV:b0 P ac)(aj:a9 d CT){B}{a}(s:r2 ac CT bg D av F k=f (B,a,aq,cj))(cz:T cj)(h:g d D be B .normal a aq):g d D be av .normal F k:=by
 unfold r2 at s;split at s
 .cases s
 .grind [g.iF]
 .grind [g.hT]
 .rename_i all r br b;cases e:fp D r.dst with
  |false=>grind
  |true=>
   simp[e]at s;have al:=k_ e;split at s
   .rename_i m j i;exact Q6
   .rename_i m aP j i;exact Q6
   grind
 rename_i o b;split at s
 .grind [g.skip]
 .grind [g.seq]
 .grind [g.block]
 .grind [g.region,g.iS]
 .grind [g.exit]
 .grind [g.cond]
 grind
def kQ(o:m (Nat×cq))(b:m (Nat×bJ))(d:m (Nat×Bool))(k:Nat):Nat->m il->bH->m an->m Prop->Option (m il×bH×m an×m Prop)
 |0,g,e,h,a=>e0 a λa=>f (g,e,h,a)
 |q+1,g,e,h,a=>match r2 o b d k g e h with
  |some (p,i,j,r)=>kQ o b d k q p i j (gN r a)
  |none=>e0 a λa=>f (g,e,h,a)
def L8{P}{q:af P}(v:P.follows Departure.mixedOrders=l){ac}(aV:b0 P ac){CT}(w:a9 q CT){bg}{D}{be}:∀{s:Nat}{i p:m il}{h d:bH}{j e:m an}{b a:m Prop},
  kQ ac CT bg D s i h j b=f (p,d,e,a)->T a->g q D be p .normal d e->g q D be i .normal h j/\T b
 |0,i,p,h,d,j,e,b,a,k,o,r=>by simp[kQ,hz]at k;grind
 |s+1,i,p,h,d,j,e,b,a,k,o,r=>by
  simp[kQ]at k;cases x:r2 ac CT bg D i h j with
  |none=>
   grind[hz]
  |some y=>
   obtain⟨A,z,t,E⟩:=y;simp[x]at k;obtain⟨C,B⟩:=L8 v aV w k o r;grind[T.X,ace]
def g.aR{b:af P}(m:P.follows Departure.mixedOrders=l)(aV:b0 P ac)(d:a9 b CT)(bg)(j){i}{a}{h}(o:AM.kQ ac CT bg D j av F k []=f (i,a,aq,h))(e:T h)(p:g b D be i .normal a aq):g b D be av .normal F k:=(L8 m aV d o e p).1
section
variable {p:af P}
def pA(e:m ResultVar)(b:m Nat)(g:bH)(a:y):Option (m Prop):=
 match oG g e with
 |some d=>match pp d with
  |some h=>match hR (c b) a with
   |true=>kk h (fg b a)
   |false=>n
  |none=>n
 |none=>n
def g.aQ{fn}{w}{res}(aT)(s:pA fn.results.toList aT F res=f Z)(K:T Z)(bW:∀t,t<w->aT[t]?=f t)(q:dy aT k=f aq:=by exact rfl)(i:l0 aq=l:=by exact rfl)(jn:ff aT=l:=by exact rfl):
  g p D (bX fn w res aq) (.code .ret::av) .normal F k:=by refine g.ret ⟨.inl a,aT,?_⟩;unfold pA at s;grind
def g.aw{fn}{res}(s:pA fn.results.toList [] F res=f Z)(w:T Z:=by simp):g p D (bX fn 0 res []) (.code .ret::av) .normal F k:=
 g.aQ [] s w (λt s=>by omega)
def bX.zero{fn}{res}(s:pA fn.results.toList [] F res=f Z)(q:T Z:=by simp):bX fn 0 res [] .ret F k:=by
 refine⟨.inl a,[],?_⟩;unfold pA at s;split at s
 .rename_i bg YV;split at s
  .rename_i K i;split at s
   .rename_i w;exact⟨bg,K,Z,YV,i,s,q,w,a,a,a,λt s=>by omega⟩
   grind
  grind
 grind
def g.bs{id}{Q:bH->m an->Prop}{AB}{d B}(j:iR id av=n)(o:iR id d=f B)(w:g p D AB B .normal F k):
  g p D (λh b e=>match h with
   |.normal=>Q b e
   |h=>g p D AB d h b e) (.code (.exit id)::av) .normal F k:=by
 have key:∀{av:m il},iR id av=n->∀{aM:fB},aM (.exit id) F k->g p D aM av (.exit id) F k:=by
  intro av;induction av with
  |nil=>intro _ aM i;exact i
  |cons v A r=>
   intro a aM i;cases v with
   |code z=>exact r (by simpa[iR]using a) i
   |S x y=>exact r (by simpa[iR]using a) i
   |blk s=>
    simp[iR]at a;cases q:ad id s with
    |true=>grind
    |false=>
     simp[q]at a;have t:id≠s:=λh=>by grind[Nat.beq_refl]
     simp[g,t,dm];grind
 exact b2.exit (key j (g.toExit o w))
def g.bP{Q:bH->m an->Prop}{a}{h}(i:a .ret F k):
  g p D (λe b d=>match e with
   |.normal=>Q b d
   |e=>g p D a h e b d) (.code .ret::av) .normal F k:=g.ret (g.dL (be:=a) i)
def g.again{i:Type}{r:i->Prop}{e:i->bH}{h:i->m an}{j:i->Nat}{s}{o:fB}(a)(w:iW F (e a)=f Z)(x:T Z)(y:r a)(v:j a<j s)(t:k=h a):
  g p D (λq b d=>match q with
   |.normal=>∃a,r a/\j a<j s/\iA b (e a)/\d=h a
   |q=>o q b d) [] .normal F k:=⟨a,y,v,eJ w x,t⟩
def g.ek{j:Type}(i:j->Prop)(a:j->bH)(b:j->m an)(r:j->Nat)(d)(v:iW F (a d)=f Z)(w:T Z)(x:i d)(t:b d=k)(round:∀d,i d->g p D (λs e h=>match s with
   |.normal=>∃o,i o/\r o<r d/\iA e (a o)/\h=b o
   |s=>g p D be av s e h) [.code q] .normal (a d) (b d)):g p D be (.code (.loop q)::av) .normal F k:=
 g.loop i a b r d x (eJ v w) t round
def kx(args:m y)(a:m an):Prop:=∃b A,b4 a b A args/\bc a b
def kx.at{args}(e:kx args k){a}(g:args[t]?=f a):∃b h,bv k b h a:=by obtain⟨b,A,d,_⟩:=e;obtain⟨_,i⟩:=b4.get d;grind
def kx.V{args}{k}(e:kx args k)(h:Nat){d}(a:args[h]?=f (ax (.V d))):c d<=9223372036854775807:=by
 obtain⟨i,j,g⟩:=e.at a;cases b8 g with
 |V e b=>exact b
def kx.R{args}{k}(g:kx args k)(p:Nat){o}{h j}{a:Nat->m O}(b:args[p]?=f (ax (.R o h j a))):j<=9223372036854775807:=by
 obtain⟨t,v,e⟩:=g.at b;cases b8 e with
 |R r d s q i=>omega
def X.body{i}{fn}{args}{res}(h:P.funcs[i]?=f fn)(e:(fn.name== "runtime.NumGoroutine")=u)(d:fn.body=f q)(m:ay args.length fn.ntmps=l)(o:kx args k->g p fn.ntmps (bX fn k.length res aq) [.code q] .normal (h6 0 args) k):X p i args k res aq:=by refine⟨⟨fn,h,e,by grind⟩,λj A b a=>?_⟩;exact(X.intro h e d (fl m) (g.aU (o ⟨j,A,b,a⟩))).2 j A b a
def X.I{b}{fn}{q}{args}{k aq}{res}(d:P.funcs[b]?=f fn)(a:(fn.name== "runtime.NumGoroutine",fn.body,ay args.length fn.ntmps)=(u,f q,l))(e:kx args k->g p fn.ntmps (bX fn k.length res aq) [.code q] .normal (h6 0 args) k):X p b args k res aq:=by simp only[lD]at a;exact X.body d a.1 a.2.1 a.2.2 e
def g.cd{i}(a)(aq)(j:(∀h(b:m Prop),iW h a=f b->T b->g p D be (.code q::i) .normal h aq)->g p D be av .normal F k)(o:g p D be (.code q::i) .normal a aq):g p D be av .normal F k:=
 j λ_ _ d e=>b2.le o (eJ d e)
end
def lU{e}(a:P.types[o]?=f e):P.info? o=f e:=by unfold Tables.info?;rw[bo (jb.1 a).1];exact a
def b0.nil:b0 P []:=λ_ _ a=>by cases a
def b0.cons{e}(g:eM P o e)(h:b0 P ac):b0 P ((o,e)::ac):=by
 intro t2 d a;simp only[b1]at a;cases b:ad o t2 with
 |true=>rw[b]at a;cases a;rw[<-dn b];exact g
 |false=>rw[b]at a;exact h t2 d a
abbrev aer:O:=.R l 0 0 (λ_=>[])
def xc:Y->O
 |.int a _=>.int a 0
 |.bool _=>.bool u
 |.string _=>.V []
 |.slice _ _ _=>aer
 |.pointer _=>.bo
 |.nilIface=>.bC
 |_=>.ds
def cc(a b:TypeInfo)(d:m TypeDesc:=[]):cq:=⟨a.size,a.bytes,vp b.desc,b.desc,a.zero.elim [] λe=>e.cells.toList.map xc,d⟩
def yV(b i:TypeInfo):Bool:=match b.zero with
 |some a=>a.cells.size==b.size&&a.cells.toList.all (λj=>match j with|.int e g=>g==0&&vn e 0|.bool d=>!d|.string h=>h.data.toList.isEmpty|.slice n 0 0|.pointer n|.nilIface|.nilFunc=>l|_=>u)&&(!vp i.desc||match a with|.agg _=>l|_=>u)
 |none=>u
def eM.ig{j k:TypeInfo}{r:m TypeDesc}(z:P.underlying o=f k.desc)(B:P.types[o]?=f j)(g:yV j k=l)(C:r≠[]->P.eqGuardType P.depth o=u/\∀(s:au)(A e:m Y)(t:Bool),nf r A e=f t->(Op.equal o (.agg A.toArray) (.agg e.toArray)).run P s=.ok t s/\∀i,(Op.equal o (.agg A.toArray) (.agg e.toArray)).events P s i=i):eM P o (cc j k r):=by
 unfold yV at g;cases h:j.zero with
 |none=>rw[h]at g;cases g
 |some v=>
  simp only[h,cl,gM,aY]at g;obtain⟨⟨p,q⟩,w⟩:=g;refine⟨z,a,⟨j,v,lU B,a,a,h,?_,?_,by simp[cc,h,p]⟩,C⟩
  .simp only[cc,h,Option.elim,uz];refine qa λD x=>?_;have:=q D x;split at this<;>try simp only[cl,gM,List.isEmpty_iff,jc]at this
   .obtain⟨rfl,d⟩:=this;simp[k3,xc,d]
   .simp[k3,xc,this]
   .rename_i b;have d:b.size=0:=by rw[show b.size=c b.data.toList from a,this];rfl
    simp only[Function.comp,k3,xc,this,d];rfl
   all_goals first|rfl|cases this
  by_cases y:vp k.desc=l
  .cases v<;>simp_all[cc]
  exact⟨#[],(bl y).symm⟩
def b0.ec{d e:TypeInfo}(b:P.underlying o=f e.desc)(h:P.types[o]?=f d)(g:yV d e=l)(i:b0 P ac):b0 P ((o,cc d e)::ac):=.cons (.ig b h g λb=>absurd a b) i
def b0.ks{d b:TypeInfo}{e:TypeDesc}{g:m TypeDesc}{a:m Field}(h:P.underlying o=f b.desc)(r:P.types[o]?=f d)(i:yV d b=l)(k:b.desc=.struct a.toArray)(j:P.stoodInHeld o=u)(p:P.eqGuardType P.depth o=u)(q:wR P (e::g) a 0)(s:b0 P ac):b0 P ((o,cc d b (e::g))::ac):=.cons (.ig h r i λ_=>YE (h.trans (eC f k)) j p q) s
namespace R1
section
noncomputable def ee:cq:=cc t3 t3
noncomputable def s4:cq:=cc t9 t9
noncomputable def Y5:cq:=cc t28 t28
noncomputable def De:cq:=cc t36 t36
noncomputable def vk:cq:=cc t48 t47 [.int .i64,.int .i64]
noncomputable def Df:cq:=cc t51 t50 [.int .i64,.int .i64]
noncomputable def rK:cq:=cc t73 t72 [.string,.string]
noncomputable def Dg:cq:=cc t97 t97
noncomputable def nt:cq:=cc t99 t98
noncomputable def Y4:cq:=cc t108 t108
noncomputable def rI:cq:=cc t114 t113
noncomputable def mz:cq:=cc t139 t138 [.int .i64,.string]
noncomputable def yy:cq:=cc t155 t154
noncomputable def yz:cq:=cc t233 t233
noncomputable def rJ:cq:=cc t245 t244 [.string,.bool]
noncomputable def pm:cq:=cc t253 t252 [.int .i64,.int .i64]
noncomputable def Dd:cq:=cc t271 t97
noncomputable def eO:m (Nat×cq):=[(2,cc t2 t2),(3,ee),(4,cc t4 t4),(5,cc t5 t5),(6,cc t6 t5),(8,cc t8 t7),(9,s4),(12,cc t12 t12),(16,cc t16 t16),(17,cc t17 t17),(20,cc t20 t20),(21,cc t21 t21),(22,cc t22 t22),(23,cc t23 t23),(24,cc t24 t24),(25,cc t25 t25),(27,cc t27 t26),(28,Y5),(30,cc t30 t29),(32,cc t32 t31 [.int .i64,.int .i64,.int .i64,.string]),(33,cc t33 t33),(35,cc t35 t34),(36,De),(38,cc t38 t37),(48,vk),(51,Df),(53,cc t53 t53),(58,cc t58 t58),(60,cc t60 t60),(61,cc t61 t61),(73,rK),(75,cc t75 t74),(97,Dg),(99,nt),(108,Y4),(112,cc t112 t112),(114,rI),(139,mz),(142,cc t142 t142),(149,cc t149 t149),(155,yy),(156,cc t156 t23),(158,cc t158 t157),(166,cc t166 t165),(169,cc t169 t169),(171,cc t171 t171),(180,cc t180 t180),(189,cc t189 t188),(198,cc t198 t198),(209,cc t209 t208 [.string]),(214,cc t214 t214),(215,cc t215 t12),(217,cc t217 t216),(220,cc t220 t219),(222,cc t222 t5),(233,yz),(235,cc t235 t234),(236,cc t236 t234),(237,cc t237 t234),(238,cc t238 t238),(240,cc t240 t239),(241,cc t241 t241),(243,cc t243 t242),(245,rJ),(253,pm),(262,cc t262 t262),(267,cc t267 t267),(270,cc t270 t270),(271,Dd),(280,cc t280 t280),(283,cc t283 t283),(285,cc t285 t285),(286,cc t286 t286),(305,cc t305 t305),(307,cc t307 t306),(317,cc t317 t3),(328,cc t328 t328),(331,cc t331 t330),(332,cc t332 t3),(338,cc t338 t337),(352,cc t352 t352),(355,cc t355 t238),(358,cc t358 t358),(374,cc t374 t374),(377,cc t377 t377),(390,cc t390 t389 [.int .u8,.int .u8]),(391,cc t391 t391),(392,cc t392 t392),(395,cc t395 t395),(397,cc t397 t396),(399,cc t399 t5),(401,cc t401 t21),(402,cc t402 t21),(404,cc t404 t403),(410,cc t410 t409 [.string])]
end
def bb:b0 V eO:=by
 unfold eO
 repeat' first|exact b0.nil|refine b0.ks bU bU bU rfl bU bU (by repeat' first|exact v|kernel_rfl|refine⟨by decide,rfl,?_,?_⟩|refine⟨?_,?_⟩) ?_|refine b0.ec bU bU bU ?_
end R1
abbrev bC:=m UInt8
abbrev b3(a:bC):y:=ax (.V a)
abbrev R(a:Int):y:=ax (.int .i64 a)
abbrev u1(a:Int):y:=ax (.int .u8 a)
abbrev bi(a:Bool):y:=ax (.bool a)
def xv{b}:kF b e=b.getD e 0:=rfl
namespace R1
variable {p:af V}
def b6:Tryz.prog.follows Departure.mixedOrders=l:=rfl
def pB{b:af V}{CT}(h:a9 b CT)(bg){D}{be}(j){av i}{F a}{k aq}{e}(m:AM.kQ eO CT bg D j av F k []=f (i,a,aq,e))(d:T e)(o:g b D be i .normal a aq):g b D be av .normal F k:=g.aR b6 bb h bg j m d o
def gV{d:af V}(bg){D}{be}(j){av i}{F a}{k aq}{e}(h:AM.kQ eO [] bg D j av F k []=f (i,a,aq,e))(b:T e)(m:g d D be i .normal a aq):g d D be av .normal F k:=g.aR b6 bb a9.nil bg j h b m
def aZ{d:af V}{D}{be}{av i}{F a}{k aq}{e}(h:AM.kQ eO [] [] D 100 av F k []=f (i,a,aq,e))(b:T e)(j:g d D be i .normal a aq):g d D be av .normal F k:=g.aR b6 bb a9.nil [] 100 h b j
def cy{d:af V}{D}{be}{av i}{F a}{k aq}{e}(h:AM.kQ eO [] [] D 200 av F k []=f (i,a,aq,e))(b:T e)(j:g d D be i .normal a aq):g d D be av .normal F k:=g.aR b6 bb a9.nil [] 200 h b j
def a7{b:af V}{CT}(h:a9 b CT)(bg){D}{be}{av i}{F a}{k aq}{e}(j:AM.kQ eO CT bg D 100 av F k []=f (i,a,aq,e))(d:T e)(m:g b D be i .normal a aq):g b D be av .normal F k:=g.aR b6 bb h bg 100 j d m
def bf{b:af V}{CT}(h:a9 b CT)(bg){D}{be}{av i}{F a}{k aq}{e}(j:AM.kQ eO CT bg D 200 av F k []=f (i,a,aq,e))(d:T e)(m:g b D be i .normal a aq):g b D be av .normal F k:=g.aR b6 bb h bg 200 j d m
def a6{d:af V}(bg){D}{be}{av i}{F a}{k aq}{e}(h:AM.kQ eO [] bg D 100 av F k []=f (i,a,aq,e))(b:T e)(j:g d D be i .normal a aq):g d D be av .normal F k:=g.aR b6 bb a9.nil bg 100 h b j
def bP{d:af V}(bg){D}{be}{av i}{F a}{k aq}{e}(h:AM.kQ eO [] bg D 200 av F k []=f (i,a,aq,e))(b:T e)(j:g d D be i .normal a aq):g d D be av .normal F k:=g.aR b6 bb a9.nil bg 200 h b j
def b9{b:af V}{CT}(h:a9 b CT){D}{be}{av i}{F a}{k aq}{e}(j:AM.kQ eO CT [] D 100 av F k []=f (i,a,aq,e))(d:T e)(m:g b D be i .normal a aq):g b D be av .normal F k:=g.aR b6 bb h [] 100 j d m
def cM{b:af V}{CT}(h:a9 b CT){D}{be}{av i}{F a}{k aq}{e}(j:AM.kQ eO CT [] D 200 av F k []=f (i,a,aq,e))(d:T e)(m:g b D be i .normal a aq):g b D be av .normal F k:=g.aR b6 bb h [] 200 j d m
def lk(a:Int):Bool:=decide (97<=a)&&decide (a<=101)
theorem Wy(i):X p 112 [u1 i] [] (bi (lk i)) []:=by
 refine X.I func112 rfl λ_=>?_;by_cases b:97<=i
 .refine a6 [4] a ?_ (g.aw a ?_)<;>simp[b,lk]
 refine a6 [-4] a ?_ (g.aw a ?_)<;>simp[b,lk]
def jq(a:UInt8):Bool:=decide (97<=a.toNat)&&decide (a.toNat<=122)
def dX(a:bC):Bool:=a.all jq
def ZF{b}(d:∀a,a<c b->jq (b.getD a 0)=l):dX b=l:=by simp[dX,aY];grind[List.getElem_of_mem]
def ZC{b}(e:t<c b)(d:jq (b.getD t 0)=u):dX b=u:=by
 cases a:dX b with
 |false=>rfl
 |true=>
  simp[dX,aY]at a;grind
theorem V3(b):X p 113 [b3 b] [] (bi (dX b)) []:=by
 refine X.I func113 rfl λe=>?_;have m:=e.V 0 a;refine aZ a v (g.ek (λd=>d<=c b/\∀t,t<d->jq (b.getD t 0)=l) (λd:Nat=>[(0,b3 b),(3,R d)]) (λ_=>[]) (λd=>c b-d) 0 a E ⟨by omega,by omega⟩ a ?_);rintro d ⟨h,q⟩;by_cases s:d<c b
 .generalize w:b.getD d 0=i;by_cases k:i.toNat<97
  .refine a6 [7,13] a ?_ (g.bP (bX.zero a ?_))
   .simp only[T,xv,bw,w];omega
   exact z6
  by_cases j:i.toNat>122
  .refine a6 [7,-13,18] a Ov (g.bP (bX.zero a ?_));exact z6
  refine a6 [7,-13,-18] a QB (g.again (d+1) a E ?_ ?_ a)
  .refine⟨by omega,λt K=>?_⟩;rcases wX.1 K with K|rfl
   .grind
   rw[w];simp[jq,cl,bw];omega
  omega
 exact OO
end R1
def X.args{P:aE}{h:af P}{i}{args a}{k aq}{res}(j:X h i a k res aq)(e:∀b A,b4 k b A args->b4 k b A a):X h i args k res aq:=
 ⟨j.1,λb A g d=>j.2 b A (e b A g) d⟩
def jt(d:Nat):y->Option (Nat×(Nat->m O))
 |.n (.ar (.c (.R _ e b a)))=>match ad e d with
  |true=>f (b,a)
  |false=>match ad b 0 with
   |true=>f (0,λ_=>[])
   |false=>n
 |_=>n
def abU{B}{r}{j}{e:Nat->m O}(a:jt B r=f (j,e)){k}{b}{aa}(s:bv k b aa r):Rd b.u aa (.R u B j e):=by
 unfold jt at a;split at a
 .rename_i o h d dJ;split at a
  .rename_i g;have p:=dn g;subst p;cases a;exact(b8 s).en
  split at a
  .rename_i t;have p:=dn t;subst p;cases a;have q:=b8 s;cases q with
   |R w i y v D F g z A C=>exact Rd.R w i y v D E x x x x
  grind
 grind
def gG{b:Type}(d:b->m O)(a:b)(g:m b):Nat->m O:=λe=>d (g.getD e a)
structure c1(α:Type) where
 bb:Nat
 a3:α->m O
 cl:m O->α
 C:α
 inv:∀w,cl (a3 w)=w
 len:∀w,c (a3 w)=bb
namespace c1
variable {α:Type}(q:c1 α)
def ad(d:Nat)(a:Nat->m O):m α:=(aA d).map λb=>q.cl (a b)
def fn(a:m α):Nat->m O:=gG q.a3 q.C a
def bQ(d:Nat)(a:Nat->m O):Prop:=∀b,b<d->a b=q.a3 (q.cl (a b))
def R(a:m α):y:=ax (.R u q.bb (c a) (q.fn a))
def jD{j}{a:Nat->m O}:c (q.ad j a)=j:=by simp[ad]
def l(d):q.ad (c d) (q.fn d)=d:=by
 apply rl
 .simp[ad]
 intro e b a;simp[ad,fn,gG,ak,bF a,q.inv]
def T(d){j}:q.bQ j (q.fn d):=λa _=>by simp[fn,gG,q.inv]
def jb{j}{a:Nat->m O}(d:q.bQ j a):bs j a (q.fn (q.ad j a)):=by intro e b;rw[d e b];simp[fn,gG,ad,ak,b]
def cu{d}{j}{a:Nat->m O}(i:jt q.bb d=f (j,a))(g:q.bQ j a){k}{b}{aa}(o:bv k b aa d):bv k b aa (q.R (q.ad j a)):=by have e:=abU i o;have h:=e.cB (q.jb g);show Rd b.u aa (.R u q.bb (c (q.ad j a)) _);rw[q.jD];exact h
end c1
def dq(b:bC)(a:Nat):Int:=(b.getD a 0).toNat
theorem ka(b)(t):((kF b t).toNat:Int)=dq b t.toNat:=rfl
abbrev cY:=bC×bC
def v6(a:m O)(b:Nat):bC:=match c' b a with|some (.V d)=>d|_=>[]
def s9(a:m O)(b:Nat):Int:=match c' b a with|some (.int _ d)=>d|_=>0
def bx:c1 cY:={bb:=2,a3:=λb=>[.V b.1,.V b.2],cl:=λa=>(v6 a 0,v6 a 1),C:=([],[]),inv:=λ_=>rfl,len:=λ_=>rfl}
namespace R1
variable {p:af V}
def Bi:bJ:=λargs a=>match args,a with
 |[.n (.ar (.c (.int .u8 b)))],[]=>f (bi (lk b),[],[])
 |_,_=>n
def t112:bK p 112 Bi:=by intro args g b d a e _;unfold Bi at e;grind[Wy]
def xw:bJ:=λargs a=>match args,a with
 |[.n (.ar (.c (.V b)))],[]=>f (bi (dX b),[],[])
 |_,_=>n
def t113:bK p 113 xw:=by intro args g b d a e _;unfold xw at e;grind[V3]
def Ib:m (Nat×bJ):=[(112,Bi),(113,xw)]
def qk:a9 p Ib:=a9.cons t112 (a9.cons t113 a9.nil)
def fU(a:bC):Bool:=if c a=1 then lk (dq a 0)else if c a=3 then lk (dq a 0)&&(dq a 1==47)&&lk (dq a 2)else u
theorem W4(b):X p 64 [b3 b] [] (bi (fU b)) []:=by
 refine X.I func64 rfl λh=>?_;by_cases aj:c b=1
 .refine a7 qk [6] a Ae (g.aw a ?_);simp[fU,aj,ka]
 by_cases d:c b=3
 .by_cases i:lk (dq b 0)=l
  .by_cases e:dq b 1=47
   .refine a7 qk [-6,11,14,18] a ?_ (g.aw a ?_)
    .simp[d,ka,i,e]
    simp[fU,d,i,e,ka]
   refine a7 qk [-6,11,14,-18] a ?_ (g.aw a ?_)
   .simp[d,ka,i,e]
   simp[fU,d,i,e]
  refine a7 qk [-6,11,-14] a ?_ (g.aw a ?_)
  .simp[d,ka,i]
  simp[fU,d,i]
 refine a7 qk [-6,-11] a bT (g.aw a ?_);simp[fU,aj,d]
def fO(a:bC):Bool:=decide (c a<=40)&&dX a
theorem X1(b):X p 65 [b3 b] [] (bi (fO b)) []:=by
 refine X.I func65 rfl λe=>?_;by_cases d:c b<=40
 .refine a7 qk [5] a bT (g.aw a ?_);simp[fO,d]
 refine a7 qk [-5] a bT (g.aw a ?_);simp[fO,d]
def k8(a b:bC):Bool:=(c a != c b)&&(dq a 0==dq b 0)
def Uc(b i)(d:b≠[])(e:i≠[]):X p 66 [b3 b,b3 i] [] (bi (k8 b i)) []:=by
 have j:=AV.2 d;have h:=AV.2 e;refine X.I func66 rfl λk=>?_;by_cases K:c b=c i
 .refine a6 [-9] a sc (g.aw a ?_);simp[k8,K]
 refine a6 [9] a bu (g.aw a ?_);simp[k8,K,ka]
end R1
def q9(d a:m an):Prop:=∀b,bc d b->bc a b/\cN d b a b/\∀g(e:y),bv d b g e->bv a b g e
def Dn:an->an->Option (m Prop)
 |.w h r j d,.w a e g b=>match ad h a,ad r e with
  |true,l=>f [j=g,bs j d b]
  |_,_=>n
 |.cells h q,.cells a i=>match ad h a with
  |true=>qB q i
  |false=>n
 |.J,.J=>f []
 |.E H,.E k=>f [H=k]
 |.loop v t w,.loop p o s=>f [an.loop v t w=an.loop p o s]
 |.bd,.bd=>f []
 |.p h r j d,.p a e g b=>match ad h a,ad r e with
  |true,l=>f [j=g,bs j d b]
  |_,_=>n
 |_,_=>n
def jp:m an->m an->Option (m Prop)
 |[],[]=>f []
 |b::h,d::g=>match Dn b d with
  |some e=>match jp h g with
   |some a=>f (gN e a)
   |none=>n
  |none=>n
 |_,_=>n
def wO(j e:an):Prop:=
 (∀d h g a,j=.w d h g a->∃b,e=.w d h g b/\bs g a b)/\((∀d h g a,j≠.w d h g a)->(∀d h g a,e≠.w d h g a)/\(j=e∨(∃d k i,j=.cells d k/\e=.cells d i/\∀m o A,bM m o A k->bM m o A i)∨∃d h g a b,j=.p d h g a/\e=.p d h g b/\bs g a b))
theorem Zw{B g}(d:Dn B g=f Z)(k:T Z):wO B g:=by
 unfold Dn at d;split at d
 .rename_i W h j U i x e b;split at d
  .rename_i q v;cases d;have m:=dn q;have w:=dn v;obtain⟨s,D⟩:j=e/\bs j U b:=k;subst m w s;refine⟨λeP J M C he=>?_,λK=>absurd a (K _ _ _ _)⟩;grind
  grind
 .rename_i W ah i o;split at d
  .rename_i q;have m:=dn q;subst m;exact⟨λ_ _ _ _ he=>q3,λ_=>⟨λ_ _ _ _ he=>q3,.inr (.inl ⟨W,ah,o,a,a,λN O A y=>Dp d k y⟩)⟩⟩
  grind
 .exact FD
 .cases d;rename_i H p;have t:H=p:=k;subst t;exact FD
 .cases d;rename_i F E y I r z;have t:an.loop F E y=an.loop I r z:=k;exact⟨λ_ _ _ _ he=>q3,λ_=>⟨λ_ _ _ _ he=>q3,.inl t⟩⟩
 .exact FD
 .rename_i W h j U i x e b;split at d
  .rename_i q v;cases d;have m:=dn q;have w:=dn v;obtain⟨s,D⟩:j=e/\bs j U b:=k;subst m w s;exact⟨λ_ _ _ _ he=>q3,λ_=>⟨λ_ _ _ _ he=>q3,.inr (.inr ⟨W,h,j,U,b,a,a,D⟩)⟩⟩
  grind
 grind
def Kt:∀{h d:m an}{e:m Prop},jp h d=f e->T e->c d=c h/\∀(i:Nat)g b,h[i]?=f g->d[i]?=f b->wO g b
 |[],[],_,_,_=>⟨rfl,λi g b a=>by grind⟩
 |[],_::_,_,a,_=>by cases a
 |_::_,[],_,a,_=>by cases a
 |k::v,o::t,e,a,j=>by
  simp only[jp]at a;split at a
  .rename_i s p;split at a
   .rename_i aeN dr;cases a;rw[T.X]at j;obtain⟨r,q⟩:=Kt dr j.2;grind[Zw]
   grind
  grind
def jP(D:jp k aq=f Z)(af:T Z):q9 k aq:=by
 obtain⟨ax,aE⟩:=Kt D af;intro C G;have aB:∀(i:Nat) q,k[i]?=f q->∃r,aq[i]?=f r/\wO q r:=N;have get:∀(i:Nat) (r:an),aq[i]?=f r->∃q,k[i]?=f q/\wO q r:=N;have az:∀(i:Nat),(∀q,k[i]?=f q->q.dO=u)->∀q,aq[i]?=f q->q.dO=u:=by
  intro i ae r p;obtain⟨q,aI,x⟩:=get i _ p;have aw:=ae q aI;rcases(x.2 (λg h j b v=>by rw[v]at aw;cases aw)).2 with rfl|⟨g,e,O,rfl,rfl,_⟩|⟨g,h,j,b,d,rfl,rfl,_⟩
  .omega
  .rfl
  exact cT
 have aP:∀(i:Nat) g h j b,aq[i]?=f (an.p g h j b)->∃d,k[i]?=f (an.p g h j d):=by
  intro i g h j b p;obtain⟨q,aI,x⟩:=get i _ p;by_cases B:∃g h j b,q=an.w g h j b
  .obtain⟨E1,k1,ah,lN,rfl⟩:=B;obtain⟨d,s,_⟩:=x.1 _ _ _ _ rfl;cases s
  rcases(x.2 (λg h j b v=>B ⟨g,h,j,b,v⟩)).2 with rfl|⟨g,e,O,rfl,D,_⟩|⟨g,h,j,b,d,rfl,D,_⟩
  .grind
  .cases D
  grind
 have aL:∀(i:Nat) g h j b,aq[i]?=f (an.w g h j b)->∃d,k[i]?=f (an.w g h j d):=by
  intro i g h j b p;obtain⟨q,aI,x⟩:=get i _ p;by_cases B:∃g h j b,q=an.w g h j b
  .obtain⟨E1,k1,ah,lN,rfl⟩:=B;obtain⟨d,s,_⟩:=x.1 _ _ _ _ rfl;grind
  exact absurd a ((x.2 (λg h j b v=>B ⟨g,h,j,b,v⟩)).1 g h j b)
 have ar:∀(z:Y) (R:Q),cB k C z R->cB aq C z R:=by
  intro z R o;cases R with
  |c aJ=>exact o
  |ptr i aQ=>exact⟨az i o.1,o.2⟩
  |w i h j b=>
   refine⟨o.1,by rw[ax];exact o.2.1,λg I J d p=>?_⟩;obtain⟨kH,t⟩:=aL i g I J d p;exact o.2.2 g I J kH t
  |aK i=>exact⟨az i o.1,o.2⟩
  |K i aR=>
   obtain⟨ag,ai,aF,aG⟩:=o;refine⟨ag,ai,by grind,λg I J d p=>?_⟩;grind
  |any=>exact o
 have aj:∀(A:m Y) (e:m Q),bM k C A e->bM aq C A e:=by
  intro A;induction A with
  |nil=>intro e o;cases e with|nil=>trivial|cons _ _=>exact o.elim
  |cons z A F=>intro e o;cases e with|nil=>exact o.elim|cons aD e=>exact⟨ar _ _ o.1,F _ o.2⟩
 have au:∀(z:Y) (v:E1),eA k C z v->eA aq C z v:=by
  intro z v o;cases v with
  |ar R=>exact ar _ _ o
  |agg e=>obtain⟨A,s,t⟩:=o;exact⟨A,s,aj _ _ t⟩
 have aM:∀(A:m Y) (e:m E1),eX k C A e->eX aq C A e:=by
  intro A;induction A with
  |nil=>intro e o;cases e with|nil=>trivial|cons _ _=>exact o.elim
  |cons z A F=>intro e o;cases e with|nil=>exact o.elim|cons aD e=>exact⟨au _ _ o.1,F _ o.2⟩
 have av:∀(z:Y) (U:y),bv k C z U->bv aq C z U:=by
  intro z U o;cases U with
  |n aJ=>exact au _ _ o
  |Q aK=>obtain⟨A,s,t⟩:=o;exact⟨A,s,aM _ _ t⟩
  |any=>trivial
 refine⟨⟨G.mem,by rw[G.len,ax],?_,G.a1,G.lt,G.own⟩,⟨bB _,λ_ _ _=>rfl,λ_ _ _ D=>D,λ_ _ _ _=>rfl,λL D M w=>.inr ⟨L,D,w⟩,?_,a,a,a,a⟩,av⟩
 .intro i r L al W;obtain⟨q,aI,x⟩:=get i r al;have w:=G.box i q L aI W;by_cases B:∃g h j b,q=an.w g h j b
  .obtain⟨g,h,j,b,rfl⟩:=B;obtain⟨d,rfl,p⟩:=x.1 _ _ _ _ rfl;refine⟨w.1.cB p,?_⟩;rcases w.2 with⟨s,t⟩|s
   .exact .inl ⟨s,t.cB p⟩
   grind
  rcases(x.2 (λg h j b v=>B ⟨g,h,j,b,v⟩)).2 with rfl|⟨g,e,O,rfl,rfl,S⟩|⟨g,h,j,b,d,rfl,rfl,S⟩
  .cases q with
   |cells g e=>obtain⟨M,A,s,t,E,K⟩:=w;exact⟨M,A,s,t,aj _ _ E,K⟩
   |w g h j b=>grind
   |E H=>exact w
   |J=>trivial
   |loop aO aN o=>obtain⟨i,tmps,fn,aC,s,t,E,K,V⟩:=w;exact⟨i,tmps,fn,aC,s,t,E,λaH=>av _ _ (K aH),V⟩
   |bd=>exact w
   |p g h j b=>exact w
  .obtain⟨M,A,s,t,E,K⟩:=w;exact⟨M,A,s,t,aj _ _ (S _ _ _ E),K⟩
  rcases w with w|⟨M,X,A,ao,s,t,E,K,V,aa,ab⟩
  .exact .inl w
  exact .inr ⟨M,X,A,ao,s,t,E,K,V,aa.cB S,ab⟩
 intro i q L aI W;obtain⟨r,al,x⟩:=aB i q aI;refine⟨r,L,al,W,?_⟩;by_cases B:∃g h j b,q=an.w g h j b
 .obtain⟨g,h,j,b,rfl⟩:=B;obtain⟨d,rfl,p⟩:=x.1 _ _ _ _ rfl;exact⟨λ_=>rfl,bB _⟩
 rcases(x.2 (λg h j b v=>B ⟨g,h,j,b,v⟩)).2 with rfl|⟨g,e,O,rfl,rfl,S⟩|⟨g,h,j,b,d,rfl,rfl,_⟩
 .exact fP.refl _ _
 .exact a
 exact⟨λ_=>rfl,bB _⟩
section
variable {p:af P}
theorem b2.aS{aM}{e}(I:∀d g,bZ D k d F g->bc k d->∃a:a5,a.a=d.a/\bZ D aq a e g/\bc aq a/\cN k d aq a)(M:b2 p D q aM e aq):b2 p D q aM F k:=by intro d g N b B v m A t s;obtain⟨a,K,E,y,x⟩:=I d g N b;have z:=x.too1 b;refine .aS (.of b y K z) ?_;exact M a g E y B v m A t λC J i w j O o r h=>s C J i w j O o r (z.trans h)
theorem g.aS{b}{aq}(h:∀d e,bZ D k d F e->bc k d->∃a:a5,a.a=d.a/\bZ D aq a b e/\bc aq a/\cN k d aq a)(i:g p D be (.code q::av) .normal b aq):g p D be (.code q::av) .normal F k:=
 b2.aS h i
def bZ.ab{h:Act}(a:q9 k aq)(e:bZ D k b F h)(d:bc k b):bZ D aq b F h:=⟨e.size,e.defers.imp λ_ g=>g.mono (a b d).2.1.ext,λi=>(a b d).2.2 _ _ (e.al i)⟩
def g.bf(aq)(d:jp k aq=f Z)(b:T Z)(i:g p D be (.code q::av) .normal F aq):g p D be (.code q::av) .normal F k:=
 g.aS (λe j h a=>⟨e,rfl,h.ab (jP d b) a,(jP d b e a).1,(jP d b e a).2.1⟩) i
def g.bK(o)(W)(h){gl}(y:look F o=ax (.R l gl j U))(b:j=0)(s:g p D be (.code q::av) .normal ((o,.n (.ar (.w (c k) h j U)))::F) (k++[.w W h j U])):g p D be (.code q::av) .normal F k:=by
 refine g.aS (λi d e bO=>?_) s;have t:=e.al o;rw[y]at t;have a:=Rd.fS (h:=gl) (gl:=h) (.inr b) (b8 t);have aI:ez (k++[.w W h j U]) {i with s:=i.s++[⟨d.tmps.getD o I,[]⟩]} (.w W h j U) ⟨d.tmps.getD o I,[]⟩:=⟨a.en,.inl ⟨⟨rfl,b⟩,a⟩⟩;obtain⟨x,m⟩:=bO.bX (.refl _ _) rfl bO aI E
 refine⟨{i with s:=i.s++[⟨d.tmps.getD o I,[]⟩]},rfl,⟨e.size,e.defers.imp λ_ a=>a.mono m.ext,λv=>?_⟩,x,m⟩;simp only[look];cases r:ad o v with
 |false=>exact(e.al v).mono m.ext bO.len
 |true=>
  have w:=dn r;subst w;exact tr (L:=⟨d.tmps.getD o I,[]⟩) E t0 aI
def g.b7{R:Type}(N:R->Prop)(h:R->bH)(d:R->m an)(t:R->Nat)(s){K:m Prop}(aE:iW F (h s)=f Z)(y:T Z)(aw:jp k (d s)=f K)(al:T K)(aF:N s)(round:∀s,N s->g p D (λx B C=>match x with
   |.normal=>∃b,N b/\t b<t s/\iA B (h b)/\q9 C (d b)
   |x=>g p D be av x B C) [.code q] .normal (h s) (d s)):g p D be (.code (.loop q)::av) .normal F k:=by
 intro ah w ao A i aa W U Y X;have af:=jP aw al;obtain⟨aC,aD,_⟩:=af ah A;refine xj (λj e az=>∃b,N b/\bZ D (d b) az (h b) e/\bc (d b) az/\de k ah (d b) az/\t b=j) ?_ ?_ ⟨s,aF,(ao.le (eJ aE y)).ab af A,aC,aD.too1 A,a⟩
 .rintro j e az ⟨b,ab,o,I,S,x⟩;exact⟨d b,I,λG z=>⟨b,ab,o.rely z I,I.rely z,S.trans z.aH,x⟩⟩
 rintro j e az ⟨b,ab,o,I,S,rfl⟩ aq;refine round b ab az e o I i (.inLoop q::aa) W U Y ?_;intro x Q aj M V ag J r v;cases x with
 |normal=>
  obtain⟨ai,O,au,ar,ae⟩:=ag;obtain⟨aB,ax,_⟩:=ae M r;exact aq V M (t ai) au ⟨ai,O,(J.le ar).ab ae r,aB,S.trans (v.trans (ax.too1 r)),a⟩
 |_=>exact kG.cons (λ_ _=>rfl) E (X _ _ _ _ _ ag J r (S.trans v))
def g.b3{d:Type}{s:d->Prop}{h:d->bH}{j:d->m an}{w:d->Nat}{v:d}{o:fB}(a){cS}(x:iW F (h a)=f Z)(y:T Z)(i:jp k (j a)=f cS)(z:T cS)(A:s a)(q:w a<w v):
  g p D (λr b e=>match r with
   |.normal=>∃a,s a/\w a<w v/\iA b (h a)/\q9 e (j a)
   |r=>o r b e) [] .normal F k:=⟨a,A,q,eJ x y,jP i z⟩
end
def X.bZ{w:af P}{z}{args}{res d}(h:X w z args [] res aq)(C:kk res d=f Z)(D:T Z)(x:hR 0 d=l):X w z args [] d []:=by
 refine⟨h.1,λb A t j B o r=>h.2 b A t j B o λp F m s v g e=>?_⟩;have J:b.s=[]:=jD j.len;have E:e3 m {m with s:=[]}:=⟨rfl,λ_ _ _ h=>h,λ_ _ _=>rfl,g.mem,λy i=>.inl N⟩
 refine .aS E (r p F {m with s:=[]} (s.mono λ_ _ _ h=>h) ?_ ⟨g.mem,rfl,by simp,by simp,by simp,λy i=>⟨(g.own y i).1,by simp⟩⟩ ⟨e.size,e.aV,e.mem,e.bz,by simp,λM I L aI=>by grind,e.os,e.tape,e.output,e.own⟩);have q:=pq C D v;have:=bv.sub (aT:=[]) (k:=aq) (aq:=[]) (b:=m) (lw:=[]) (K:=d) a a (by rw[L3 x];exact q) x;omega
section drop
variable {aP br:m an}
def vl(b:Nat):an->Bool
  |.cells _ a=>li b a
  |.loop ..=>u
  |_=>l
def ki(a:Nat):m an->Bool
  |[]=>l
  |b::d=>match vl a b with|true=>ki a d|false=>u
def Ki{j}:∀{e:m an},ki j e=l->∀a∈e,vl j a=l
  |[],_,a,aI=>by grind
  |g::h,b,a,aI=>by
    simp[ki]at b;cases d:vl j g with
    |false=>grind
    |true=>
      simp[d]at b;rcases fa.1 aI with rfl|aI
      · exact d
      · exact Ki b a aI
def ez.fz{d}{L}(j:vl (c aP) d=l)(a:ez (aP++br) b d L):ez aP (b.cut (c aP)) d L:=by
  cases d with
  |cells i o=>
    obtain⟨k,A,g,h,p,m⟩:=a;exact⟨k,A,g,h,bM.cJ p j,m⟩
  |w i q r e=>exact a
  |E H=>exact a
  |J=>trivial
  |loop t s v=>simp[vl]at j
  |bd=>exact a
  |p i q r e=>exact a
def bc.drop(s:bc (aP++br) b)(q:ki (c aP) aP=l):bc aP (b.cut (c aP)):=by
  have k:c aP<=c b.s:=Ff;refine⟨s.mem,by simp[a5.cut,k],?_,?_,?_,λe a=>⟨(s.own e a).1,λL d=>(s.own e a).2 L (g0 d)⟩⟩
  · intro h o L aI d
    have p:h<c aP:=(cO.1 aI).1;simp[a5.cut,iq,p,dH]at d;exact ez.fz (br:=br) (Ki q o (b' aI)) (s.box h o L N d)
  · intro h m L i d j e a g
    simp only[a5.cut,iq]at d j;split at d<;>split at j<;>first|exact s.a1 h m L i d j e a g|grind|grind
  · intro L d e a
    exact s.lt L (g0 d) e a
def i7.drop(o:jQ br=l):∀{e:m Deferred} {g:m Nat},i7 (aP++br) b e g->i7 aP (b.cut (c aP)) e g
  |[],[],_=>trivial
  |[],_::_,i=>i.elim
  |_::_,[],i=>i.elim
  |t::e,p::g,⟨⟨d,L,i,k,s⟩,q,r⟩=>by
    have h:p<c aP:=by
      rcases dW p (c aP) with j|j
      · exact j
      · rw[hn j]at d
        exact absurd a (vC o _ (b' d))
    rw[j5 h]at d;exact⟨⟨d,L,i,by simp[a5.cut,iq,h,dH];exact k,s⟩,q,i7.drop o r⟩
def vF(b:Nat)(a:m an):Bool:=match ay b (c a) with|true=>jQ (a.drop b)|false=>u
theorem yU(a:vF j k=l):ay j (c k)=l/\jQ (k.drop j)=l:=by unfold vF at a;grind
end drop
def qA(a:Nat):bH->Bool
  |[]=>l
  | (_,b)::d=>match hR a b with|true=>qA a d|false=>u
def vm{j}:∀{d:bH} {a:Nat},qA j d=l->hR j (look d a)=l
  |[],a,_=>rfl
  | (h,g)::i,a,b=>by
    simp[qA]at b;cases e:hR j g with
    |false=>grind
    |true=>
      simp[e]at b;simp[look];cases ad h a with
      |true=>exact e
      |false=>exact vm b
section
variable {p:af P}
def mc{e:Type}(w:af P)(v:Nat)(j:fB)(t:m il)(s:e->Prop)(r:e->bH)(p:e->m an)(q:e->Nat)(o:Nat)(x:e):fB:=λk d h=>match k with
  |.normal=>∃i,s i/\q i<q x/\iA d (r i)/\qA o (r i)=l/\∃a b,h=a++b/\c a=o/\(ki o a=l/\jQ b=l)/\q9 a (p i)
  |k=>g w v j t k d h
def g.aL{J:Type}(j)(I:J->Prop)(h:J->bH)(b_:J->m an)(X:J->Nat)(o){cS}(y:iW F (h o)=f Z)(ar:T Z)(aE:jp k (b_ o)=f cS)(ao:T cS)(aB:c k=j)(G:I o)(round:∀o,I o->g p D (mc p D be av I h b_ X j o) [.code q] .normal (h o) (b_ o)):g p D be (.code (.loop q)::av) .normal F k:=by
  intro ag w au z i W U R d V;have t:=jP aE ao;obtain⟨aJ,O,_⟩:=t ag z;refine xj (λae e b=>∃bI,I bI/\bZ D (b_ bI) b (h bI) e/\bc (b_ bI) b/\de k ag (b_ bI) b/\X bI=ae) ?_ ?_ ⟨o,G,(au.le (eJ y ar)).ab t z,aJ,O.too1 z,a⟩
  · rintro j e b ⟨bI,M,Q,B,K,aj⟩
    exact OI
  rintro ae e b ⟨bI,M,Q,B,K,rfl⟩ ax;refine round bI M b e Q B i (.inLoop q::W) U R d ?_;intro aj H ai A S af C v r;cases aj with
  |normal=>
    obtain⟨ah,aM,aD,aC,aL,s,Y,rfl,aN,⟨aK,al⟩,aG⟩:=af;have aa:=v.drop N;obtain⟨aI,ab,aF⟩:=aG _ aa;have f3:=C.le aC;have aw:e3 A (A.cut (c s)):=⟨rfl,λ_ _ _ az=>az,λ_ _ _=>rfl,v.mem,λi d=>d.imp id λ⟨L,aq,d⟩=>⟨L,g0 aq,d⟩⟩
    refine .aS aw (ax S (A.cut (c s)) (X ah) aD ⟨ah,aM,⟨f3.size,f3.defers.imp λ_ cQ=>(cQ.drop al).mono ab.ext,λaH=>aF _ _ ((f3.al aH).drop (vm N))⟩,aI,?_,a⟩);exact((K.trans r).drop x).trans (ab.too1 aa)
  |_=>exact kG.cons (λ_ _=>rfl) E (V _ _ _ _ _ af C v (K.trans r))
def g.ih{h:Type}{r:h->Prop}{a:h->bH}{d:h->m an}{o:h->Nat}{s}{e}(b){cS}(x:iW F (a b)=f Z)(z:T Z)(q:qA j (a b)=l)(w:vF j k=l)(i:jp (k.take j) (d b)=f cS)(t:T cS)(y:ki j (k.take j)=l)(A:r b)(v:o b<o s):
    g p D (mc p D be e r a d o j s) [] .normal F k:=
  ⟨b,A,v,eJ x z,q,k.take j,k.drop j,(uA j k).symm,by grind[Nat.le_of_ble_eq_true,yU],⟨y,(yU w).2⟩,jP i t⟩
def g.aA{h:Type}{j}{o:h->Prop}{a:h->bH}{e:h->m an}{w:h->Nat}{r}{x}(d){Z cS}(b:(iW F (a d),qA j (a d),vF j k,jp (k.take j) (e d),ki j (k.take j))=(f Z,l,l,f cS,l))(q:T Z)(v:T cS)(s:o d)(i:w d<w r):
    g p D (mc p D be x o a e w j r) [] .normal F k:=by simp[lD]at b;exact g.ih d b.1 q b.2.1 b.2.2.1 b.2.2.2.1 v b.2.2.2.2 s i
def g.aB{bq:Type}{cH:bq->Prop}{hA:bq->bH}{b_:bq->m an}{i:bq->Nat}{C}{id}{q w K}(h:g p D be K .normal F k)(cQ:iR id q=n:=by exact rfl)(dr:iR id w=f K:=by exact rfl):
    g p D (mc p D be w cH hA b_ i j C) (.code (.exit id)::q) .normal F k:=
  b2.mono (g.bs (Q:=λdG aq=>mc p D be w cH hA b_ i j C .normal dG aq) cQ dr h) λaj dG aq bd=>by
    have key:∀av aj,g p D (λaj dG aq=>match aj with
        |.normal=>mc p D be w cH hA b_ i j C .normal dG aq
        |aj=>g p D be w aj dG aq) av aj dG aq->g p D (mc p D be w cH hA b_ i j C) av aj dG aq:=by
      have aj:(λaj dG aq=>match aj with
        |.normal=>mc p D be w cH hA b_ i j C .normal dG aq
        |aj=>g p D be w aj dG aq)=mc p D be w cH hA b_ i j C:=by funext aj dG aq;cases aj<;>rfl
      grind
    exact key _ _ bd
def g.aW{a:Type}{e:a->Prop}{b:a->bH}{d:a->m an}{o:a->Nat}{r}{h i}(q:be .ret F k):g p D (mc p D be i e b d o j r) (.code .ret::h) .normal F k:=
  g.ret (g.dL (be:=be) q)
theorem bZ.freeze(o d){ah}{gO}(al:look F o=aH d 0)(O:c' d k=f (.cells W ah))(aa:h7 ah=f gO){w}(B:bZ D k b F w)(g:bc k b):∃i:a5,i.a=b.a/\bZ D (k.set d .J) i ((o,ax (.M gO))::F) w/\bc (k.set d .J) i/\cN k b (k.set d .J) i:=by
  have aI:=er O;have af:d<c k:=(cO.1 aI).1;have Y:=B.al o;rw[al]at Y;obtain⟨_,L,r,R,T,ai⟩:=Y;obtain⟨x,A,s,K,y,G⟩:=g.box d _ L aI R;subst s;simp at T;subst T;let i:a5:={b with u:=λX v=>if X=x then A[v]? else b.u X v}
  have q:cN k b (k.set d .J) i:=by
    refine⟨bB _,λ_ _ _=>rfl,?_,?_,λL ab r j=>.inr ⟨L,ab,j⟩,?_,a,a,a,a⟩
    · grind
    · intro r j Q v
      have ag:r≠x:=λaj=>Q _ (b' R) Ae;grind
    · intro p E m e h
      by_cases aj:d=p
      · subst aj
        rw[aI]at e;cases e;exact⟨.J,m,by grind,h,a⟩
      · exact⟨E,m,by grind,h,.refl _ _⟩
  refine⟨i,a,⟨B.size,B.defers.imp λ_ s=>s.mono q.ext,λZ=>?_⟩,⟨?_,by simp[g.len,i],?_,g.a1,g.lt,g.own⟩,q⟩
  · simp only[look]
    cases j:ad o Z with
    |false=>exact(B.al Z).mono q.ext g.len
    |true=>
      have aj:=dn j;subst aj;rw[ai];have V:=rz aa y;refine Rd.M x 0 (λt=>(A[t]?).getD I) ?_ ?_
      · intro t J M
        obtain⟨C,U,_⟩:=V.get (t:=t) (w:=.c J) N;grind
      · intro t J M
        obtain⟨C,U,S⟩:=V.get (t:=t) (w:=.c J) N;simp[U,h5];exact Rd.mono q.mem S
  · intro r v C ae
    by_cases aj:r=x
    · subst aj
      have z:A[v]?=f C:=N;show b.a.cell? _=_;simp[aL,K,z]
    · exact g.mem r v C N
  · intro p E m e h
    by_cases aj:d=p
    · subst aj
      rw[ip af]at e;cases e;trivial
    · rw[kB aj]at e
      refine(g.box p E m e h).cb q.ext g.len λr j=>⟨a,λv=>?_⟩
      have ag:r≠x:=λan=>aj (g.a1 d p _ m R h r N j);grind
theorem g.freeze(o d){W}{ah}{gO}(h:look F o=aH d 0)(a:c' d k=f (.cells W ah))(e:h7 ah=f gO)(b:g p D be (.code q::av) .normal ((o,ax (.M gO))::F) (db.cp d .J k)):g p D be (.code q::av) .normal F k:=by grind[mN,g.aS,bZ.freeze]
def g.ar{br}{C}(b:aK p D all r F k C aq)(a:fp D r.dst=l)(d:g p D be (.S all br::av) .normal (gf r.dst C F) aq):g p D be (.S all (r::br)::av) .normal F k:=
  fi.dg b (k_ a) d
end
structure As(K:TypeDesc)(U:Array MapEntry)(h:Y)(w:Option (Nat×Y)):Prop where
 key:MapKept.IsKey K h
 c6:Instr.findNow K h U.toList 0=f w
 c1:w=n->∀aj∈U.toList,aj.key≠h
 gM:∀t aa,w=f (t,aa)->∃aj,U[t]?=f aj/\aj.key=h/\aj.val=aa
def JR{K}{U}{h}(a:MapKept.IsKey K h)(e:∀b∈U.toList,MapKept.IsKey K b.key):∃d,As K U h d:=by
 rcases MapKept.findNow_spec a U.toList 0 e with⟨i,B⟩|⟨t,b,i,B,z⟩
 .exact⟨n,a,i,λ_=>B,by simp⟩
 refine⟨_,a,i,by simp,λj k g=>?_⟩;grind
section
variable {M:au}{q al:ao}{K:TypeDesc}{ba:Nat}{U:Array MapEntry}{clock:Nat}{h:Y}{ok:Bool}
def Md(a:P.underlying q=f K):(underlying q).run P M=.ok K M:=by simp[underlying,a]
def x8(b:P.underlying q=f K)(d:MapKept.IsKey K h)(i)(a):(Instr.checkKey i 10000 q h).events P M a=a:=by show(Instr.checkKey i (9999+1) q h).events P M a=a;unfold Instr.checkKey;simp[aD,Md b,aG,events_underlying];cases K<;>cases h<;>first|exact d.elim|simp
def x'{d}{e}(b:P.underlying q=f K)(g:Instr.findNow K h d 0=f e)(a):(Instr.findKey q h d).events P M a=a:=by simp[Instr.findKey,Md b,g]
def ya(b:M.heap[ba]?=f (.map U clock))(a):(getObj ba).events P M a=a.push ⟨.obj ba,u,u⟩:=by simp only[getObj,Sem.events,Sem.runT,b];rfl
def Jn(d:M.heap[ba]?=f (.map U clock)){dJ}{b}(a):(setObj ba (.map dJ b)).events P M a=a.push ⟨.obj ba,l,u⟩:=by simp[setObj,Sem.events,Sem.runT,d];rfl
def L'(a:P.underlying q=f K)(b:MapKept.IsKey K h)(i):(Instr.checkKey i 10000 q h).run P M=.ok () M:=MapKept.run_checkKey a b i 9999
def KD(s:P.underlying o=f (.map q al))(b:P.underlying q=f K)(e:M.heap[ba]?=f (.map U clock)){g}(d:As K U h g){eK}(m:g=n->(zeroValue al).run P M=.ok eK M):
  (Instr.lookup o (.map (f ba)) h ok).run P M=.ok (match g with
   |some (_,p)=>if ok=l then .tuple #[p,.bool l]else p
   |none=>if ok=l then .tuple #[eK,.bool u]else eK) M/\(Instr.lookup o (.map (f ba)) h ok).events P M #[]=#[⟨.obj ba,u,u⟩]:=by
 have j:(underlying o).run P M=.ok (.map q al) M:=by simp[underlying,s]
 have k:=L' (M:=M) b d.key U.isEmpty;have i:(Instr.findKey q h U.toList).run P M=.ok g M:=MapKept.run_findKey b d.c6;cases g with
 |some r=>
  constructor
  .simp only[Instr.lookup,cJ,j,c8,MapKept.run_getObj_map e,dZ,k,i]
  simp only[Instr.lookup,aD,j,aG,MapKept.run_getObj_map e,dZ,Sem.events_pure,k,i,events_underlying,ya e,x8 b d.key,x' b d.c6];rfl
 |none=>
  constructor
  .simp only[Instr.lookup,cJ,j,c8,MapKept.run_getObj_map e,dZ,k,i,m a]
  simp only[Instr.lookup,aD,j,aG,MapKept.run_getObj_map e,dZ,Sem.events_pure,k,i,events_underlying,ya e,x8 b d.key,x' b d.c6,m a,events_zeroValue];rfl
def Nt(x:P.underlying o=f (.map q al))(a:P.underlying q=f K)(d:M.heap[ba]?=f (.map U clock)){g}{C}(e:As K U h g):
  (Instr.mapUpdate o (.map (f ba)) h C).run P M=.ok () {M with heap:=M.heap.setIfInBounds ba (match g with
   |some (m,_)=>.map (U.modify m λr=>{key:=h,val:=C,born:=r.born}) clock
   |none=>.map (U.push {key:=h,val:=C,born:=clock}) (clock+1))} /\
  (Instr.mapUpdate o (.map (f ba)) h C).events P M #[]=#[⟨.obj ba,u,u⟩,⟨.obj ba,l,u⟩]:=by
 have j:(underlying o).run P M=.ok (.map q al) M:=by simp[underlying,x]
 have k:=L' (M:=M) a e.key u;have i:(Instr.findKey q h U.toList).run P M=.ok g M:=MapKept.run_findKey a e.c6;cases g with
 |some p=>
  obtain⟨m,y⟩:=p;obtain⟨r,t,v,_⟩:=e.gM m y rfl;have s:(Instr.keyThatStays h h).run P M=.ok h M:=MapKept.run_keyThatStays e.key;have w:∀b,(Instr.keyThatStays h h).events P M b=b:=λb=>by simp[Instr.keyThatStays,MapKept.sameBits_self e.key]
  constructor
  .simp only[Instr.mapUpdate,cJ,j,c8,MapKept.run_getObj_map d,k,i,t,lC,h5,v,s,MapKept.run_setObj_map _ d]
  simp only[Instr.mapUpdate,aD,j,aG,MapKept.run_getObj_map d,k,i,t,lC,h5,v,s,w,events_underlying,ya d,Jn d,x8 a e.key,x' a e.c6];rfl
 |none=>
  constructor
  .simp only[Instr.mapUpdate,cJ,j,c8,MapKept.run_getObj_map d,k,i,MapKept.run_setObj_map _ d]
  simp only[Instr.mapUpdate,aD,j,aG,MapKept.run_getObj_map d,k,i,events_underlying,ya d,Jn d,x8 a e.key,x' a e.c6];rfl
end
def bc.ca(i:bc k b){j1:Y->(Nat->Option Obj)->Prop}{L ct}(aI:k[d]?=f (.E H))(A:b.s[d]?=f L)(G:ct.v=L.v)(R:b.a.heap.size<=bj.heap.size)(K:∀e,e<b.a.heap.size->e∉L.ab->bj.heap[e]?=b.a.heap[e]?)(D:∀e∈ct.ab,e∈L.ab∨(b.a.heap.size<=e/\e<bj.heap.size))(x:∃p,j1 ct.v p/\(∀e t,p e=f t->bj.heap[e]?=f t)/\(∀e,e∈ct.ab↔(p e).isSome=l))(M:bj.os=b.a.os)(Z:bj.tape=b.a.tape)(O:bj.output=b.a.output):
  bc (k.set d (.E j1)) ⟨b.s.set d ct,b.u,bj,b.own⟩/\cN k b (k.set d (.E j1)) ⟨b.s.set d ct,b.u,bj,b.own⟩:=by
 have bz:d<c k:=(cO.1 aI).1;have ag:d<c b.s:=N;obtain⟨aa,_,_,_,y⟩:=i.box d _ L aI A;have X:∀e∈ct.ab,∀t,b.u e t=n:=by
  intro e E t;rcases D e E with o|⟨o,_⟩
  .grind
  cases r:b.u e t with
  |none=>rfl
  |some U=>have:=i.block r;omega
 have B:cN k b (k.set d (.E j1)) ⟨b.s.set d ct,b.u,bj,b.own⟩:=by
  refine⟨R,N,λ_ _ _ i=>i,λ_ _ _ _=>rfl,N,?_,M,Z,O,a⟩;intro g I j v z;by_cases C:d=g
  .subst C;rw[aI]at v;cases v;rw[A]at z;cases z;exact⟨.E j1,ct,by grind,by grind,G⟩
  exact⟨I,j,by grind,by grind,.refl _ _⟩
 have J:∀g j,(b.s.set d ct)[g]?=f j->(g=d/\j=ct)∨(d≠g/\b.s[g]?=f j):=N;refine⟨⟨?_,by simp[i.len],?_,?_,?_,?_⟩,B⟩
 .intro e t U r;have ah:=i.block r;have ab:e∉L.ab:=λs=>by grind
  rw[<-i.mem e t U r];simp only[aL];grind
 .intro g I j v z;rcases J g j z with⟨rfl,rfl⟩|⟨C,m⟩
  .rw[ip bz]at v;cases v;obtain⟨p,k1,V,Q⟩:=x;exact⟨p,k1,V,Q,X⟩
  rw[kB C]at v;refine(i.box g I j v m).cb B.ext i.len λe E=>⟨K e (i.lt j (b' m) e E) λs=>C (i.a1 d g L j A m e s E),λ_=>rfl⟩
 .intro W F q j o m e h w;rcases J W q o with⟨rfl,rfl⟩|⟨dM,T⟩<;>rcases J F j m with⟨rfl,rfl⟩|⟨eT,S⟩
  .rfl
  .rcases D e h with s|s
   .exact i.a1 _ _ L j A S e s w
   have:=i.lt j (b' S) e w;omega
  .rcases D e w with s|s
   .exact i.a1 _ _ q L T A e h s
   have:=i.lt q (b' T) e h;omega
  exact i.a1 _ _ q j T S e h w
 .intro j z e w;rcases AK z with o|o
  .exact eH (i.lt j o e w) R
  subst o;rcases D e w with m|m
  .exact eH (i.lt L (b' A) e m) R
  grind
 intro e x;obtain⟨af,ae⟩:=i.own e x;grind
section
variable {j1:Y->(Nat->Option Obj)->Prop}
end
def bX.dk{fn}{d}{res}(aT)(e:pA fn.results.toList aT F res=f Z)(m:T Z)(j:dy aT k=f aq)(i:l0 aq=l)(h:ff aT=l)(g:∀b,b<d->aT[b]?=f b):
  bX fn d res aq .normal F k:=by refine⟨.inr a,aT,?_⟩;unfold pA at e;grind
def g.iI{b:af P}{h}{aP}{res}(s:X b h cR dh res aP)(aT)(j:r.guard=n)(e:r.op=.call {callee:=.value cP,args:=ag,argTypes:=dt})(v:g3 (bE F cP)=f (h,cap))(i:k6 (ag.toList.map (bE F)++fc cap)=gq aT cR)(o:hd (c aT) cR=l)(p:dy aT k=f dh)(t:ey dh=l)(m:ey aP=l)(d:ff aT=l)(q:ay (c aT) (c aP)=l)(x:fp D r.dst=l)(w:g b D be (.S all br::av) .normal (gf r.dst (fg (aT++gW (c k) (c aP-c aT)) res) F) (db aT aP k)):g b D be (.S all (r::br)::av) .normal F k:=
 fi.call (λ_ _ _ _=>i5 j) e v aT s i o p t m d (fl q) r.dst a (k_ x) w
def g.di{d:af P}{i}(t:bk d i cR dh res aP)(aT)(m:r.guard=n)(h:r.op=.call {callee:=.value cP,args:=ag,argTypes:=dt})(x:g3 (bE F cP)=f (i,cap))(j:k6 (ag.toList.map (bE F)++fc cap)=gq aT cR)(p:hd (c aT) cR=l)(q:dy aT k=f dh)(v:ey dh=l)(o:∀b,ey (aP b)=l)(e:ff aT=l)(s:∀b,ay (c aT) (c (aP b))=l)(y:fp D r.dst=l)(w:∀b,g d D be (.S all br::av) .normal (gf r.dst (fg (aT++gW (c k) (c (aP b)-c aT)) (res b)) F) (db aT (aP b) k)):g d D be (.S all (r::br)::av) .normal F k:=
 fi.gX (λ_ _ _ _=>i5 m) h x aT t j p q v o e (λb=>fl (s b)) r.dst a (k_ y) w
def g.aC{P:aE}{b:af P}{D}{be}{av}{F}{k}{all br}{r}{cP}{ag}{dt}{a}{cap}{cR}{dh aP}{res}(w:X b a cR dh res aP)(aT)(d:(r.guard,r.op,g3 (bE F cP),k6 (ag.toList.map (bE F)++fc cap),hd (c aT) cR,dy aT k,ey dh,ey aP,ff aT,ay (c aT) (c aP),fp D r.dst)=(n,.call {callee:=.value cP,args:=ag,argTypes:=dt},f (a,cap),gq aT cR,l,f dh,l,l,l,l,l))(s:g b D be (.S all br::av) .normal (gf r.dst (fg (aT++gW (c k) (c aP-c aT)) res) F) (db aT aP k)):g b D be (.S all (r::br)::av) .normal F k:=by simp only[lD]at d;obtain⟨e,h,i,j,m,a,o,p,q,t,v⟩:=d;exact g.iI w aT e h i j m a o p q t v s
def g.a6{P:aE}{e:Type}{i:af P}{D}{be}{av}{F}{k}{all br}{r}{cP}{ag}{dt}{h}{cap}{cR}{dh}{a:e->m an}{d:e->y}(x:bk i h cR dh d a)(aT)(o:(r.guard,r.op,g3 (bE F cP),k6 (ag.toList.map (bE F)++fc cap),hd (c aT) cR,dy aT k,ey dh,ff aT,fp D r.dst)=(n,.call {callee:=.value cP,args:=ag,argTypes:=dt},f (h,cap),gq aT cR,l,f dh,l,l,l))(j:∀b,(ey (a b),ay (c aT) (c (a b)))=(l,l))(z:∀b,g i D be (.S all br::av) .normal (gf r.dst (fg (aT++gW (c k) (c (a b)-c aT)) (d b)) F) (db aT (a b) k)):g i D be (.S all (r::br)::av) .normal F k:=by simp only[lD]at o j;obtain⟨p,q,s,t,v,h,w,b,A⟩:=o;exact g.di x aT p q s t v h w (λb=>(j b).1) b (λb=>(j b).2) A z
def lV:m y->m y->Option (m Prop)
 |[],[]=>f []
 |d::a,e::b=>match kk d e with
  |some g=>match lV a b with
   |some h=>f (gN g h)
   |none=>n
  |none=>n
 |_,_=>n
def ta{k}{b}:∀{A:m Y}{e g:m y}{d:m Prop},lV e g=f d->T d->b4 k b A e->b4 k b A g
 |[],[],[],_,_,_,_=>trivial
 |_::_,[],_,_,_,_,a=>a.elim
 |[],_::_,_,_,_,_,a=>a.elim
 |[],[],_::_,_,a,_,_=>by simp[lV]at a
 |_::_,_::_,[],_,a,_,_=>by simp[lV]at a
 |w::A,r::h,s::i,d,a,j,q=>by
  simp[lV]at a;cases o:kk r s with
  |none=>grind
  |some t=>
   cases p:lV h i with
   |none=>grind
   |some v=>
    simp[o,p]at a;subst a;rw[T.X]at j;exact⟨pq o j.1 q.1,ta p j.2 q.2⟩
def g.b6{d:af P}{i}(x:bk d i cR dh res aP)(aT)(o:r.guard=n)(h:r.op=.call {callee:=.value cP,args:=ag,argTypes:=dt})(y:g3 (bE F cP)=f (i,cap))(j:lV (ag.toList.map (bE F)++fc cap) (gq aT cR)=f Z)(m:T Z)(q:hd (c aT) cR=l)(s:dy aT k=f dh)(z:ey dh=l)(p:∀b,ey (aP b)=l)(e:ff aT=l)(v:∀b,ay (c aT) (c (aP b))=l)(B:fp D r.dst=l)(w:∀b,g d D be (.S all br::av) .normal (gf r.dst (fg (aT++gW (c k) (c (aP b)-c aT)) (res b)) F) (db aT (aP b) k)):g d D be (.S all (r::br)::av) .normal F k:=
 fi.eX (λ_ _ _ _=>i5 o) h y aT x (λC A t=>ta j m t) q s z p e (λb=>fl (v b)) r.dst a (k_ B) w
def aa3{b:Act}{a}(d:a<b.tmps.size):(b.put (f a) aa).tmps.getD a I=aa:=by simp[Act.put,hu,uC d]
def dw.of_eq{U dJ}(a:U=dJ)(d:dw b dJ):dw b U:=N
def yb{z}{a:Sem Next}(e:dw b (z.events P b.a #[]))(d:a=(do pure (.value (<-z)))):dw b (a.events P b.a #[]):=by grind[jm]
def IQ{a}{fn}{aj:Array Y->Sem Y}(d:P.funcs[a]?=f fn)(k:(fn.name== "runtime.NumGoroutine")=u)(s:fn.body.isNone=l)(j:Extern.findNext fn=n)(e:Extern.find fn=f aj)(args)(i:dC P (aj args))(b)(U):
  (callFunc a args).events P b U=U.push ⟨.mark (.extern a),u,l⟩:=by have h:fn.name≠ "runtime.NumGoroutine":=N;have g:fn.body=n:=wI;simp[callFunc,d,h,g,j,e];rw[i b]
section
variable {p:af P}
def eF(P:aE)(p:Nat)(k:ap)(o:bH)(g:m an)(q:ι->y)(b:ι->m an):Prop:=
 ∀d h,bZ p g d o h->bc g d->∃e i a j,(ab h.eval k).run P d.a=.ok i a.a/\(i=.value j∨(i=.skip/\j=I))/\bv (b e) a j (q e)/\bc (b e) a/\cN g d (b e) a/\dw d ((ab h.eval k).events P d.a #[])
def g.cE(M:ι->y)(b:ι->m an)(af:r.guard=n)(ag:fp D r.dst=l)(T:eF P D r F k M b)(U:∀o,g p D be (.S all br::av) .normal (gf r.dst (M o) F) (b o)):g p D be (.S all (r::br)::av) .normal F k:=by
 intro ai O R j Q C v N idx i a B;cases idx with
 |nil=>exact a.elim
 |cons ah idx=>
 refine ro i a.1 (i5 af) λaa w=>?_;have h:=j.rely w;have d:=R.rely w j;obtain⟨o,Y,q,ab,A,e,ae,J,K,W⟩:=T aa O d h;have x:=K.too1 h;refine⟨Y,q,ab,A,e,⟨⟨k,b o,h,J,K⟩,W⟩,?_⟩;refine U o q _ ?_ J Q C v N idx i a.2 λS s E t X z e I=>B S s E t X z e ((w.aH.trans x).trans I);cases V:r.dst with
 |none=>exact d.mono x h.len
 |some Z=>exact(d.mono x h.len).put (k_ ag Z V) ae
def g.aN{a}(e:a0 P r (bE F) k a aq)(b:r.guard=n)(d:fp D r.dst=l)(h:g p D be (.S all br::av) .normal (gf r.dst a F) aq):g p D be (.S all (r::br)::av) .normal F k:=
 g.ar (.aZ (λ_ _ _ _=>i5 b) e) d h
def oO(a:m ap)(d:bH)(g:ap):Bool:=match g.guard with
 |none=>l
 |some (e,b)=>match yw d a e with
  |some (f l)=>b
  |some (f u)=>!b
  |_=>u
def jY(a:oO all F r=l):∀d h b,bZ D d h F b->aS r (yielded all.toArray b.tmps)=l:=by
 intro d h b g;unfold oO at a;split at a
 .grind [i5]
 rename_i j i e;split at a
 .rename_i q;simp only[aS,e,yx q g,a];rfl
 .rename_i q;simp only[aS,e,yx q g];grind
 grind
def g.iK{e}{aP}{res}(s:X p e cR dh res aP)(aT)(i:oO all F r=l)(d:r.op=.call {callee:=.value cP,args:=ag,argTypes:=dt})(v:g3 (bE F cP)=f (e,cap))(h:k6 (ag.toList.map (bE F)++fc cap)=gq aT cR)(m:hd (c aT) cR=l)(o:dy aT k=f dh)(t:ey dh=l)(j:ey aP=l)(b:ff aT=l)(q:ay (c aT) (c aP)=l)(x:fp D r.dst=l)(w:g p D be (.S all br::av) .normal (gf r.dst (fg (aT++gW (c k) (c aP-c aT)) res) F) (db aT aP k)):g p D be (.S all (r::br)::av) .normal F k:=
 fi.call (jY i) d v aT s h m o t j b (fl q) r.dst a (k_ x) w
end
section
variable {p:af P}
def g.fV{dG}(d:g p D be (.code q::av) .normal dG aq){cS}(a:iW F dG=f Z)(w:T Z)(b:jp k aq=f cS)(i:T cS):g p D be (.code q::av) .normal F k:=
 g.bf aq b i (b2.le d (eJ a w))
def Cl:m il->m il
 |.blk _::av=>Cl av
 |av=>av
def g.fz:∀{av:m il},g p D be (Cl av) .normal F k->g p D be av .normal F k
 |[],a=>a
 |.blk _::av,a=>g.fz (av:=av) a
 |.code _::_,a=>a
 |.S _ _::_,a=>a
def g.cg{v S2:Type}{iJ}(id){x e}(r:iR id av=f x)(J:Go.AM.Cl x=.code iJ::e)(B:S2->Prop)(dB:S2->bH)(w:S2->m an)(j)(s:v->Prop)(b:v->bH)(d:v->m an)(C:v->Nat)(h){a}(I:iW F (b h)=f Z)(i:T Z)(E:jp k (d h)=f a)(y:T a)(A:c k=j)(t:s h)(round:(∀o {F:bH} {k:m an} {Z a:m Prop},B o->iW F (dB o)=f Z->T Z->jp k (w o)=f a->T a->g p D be x .normal F k) ->
   ∀h,s h->g p D (mc p D be av s b d C j h) [.code q] .normal (b h) (d h))(after:∀o,B o->g p D be (.code iJ::e) .normal (dB o) (w o)):g p D be (.code (.loop q)::av) .normal F k:=
 g.aL j s b d C h I i E y A t (round λo _ _ _ _ K z i r y=>g.fz (by rw[J];exact(after o K).fV z i r y))
end
section
variable {p:af P}
def iD(o:af P)(r:Nat)(j:m y)(i:m an)(h:Bool)(e:ι->m an):Prop:=
 ∀a (A:m Y) (d:Nat),b4 i a A j->bc i a->(∃L,a.s[r]?=f L/\L.v=.func (.yield d) #[] #[]) ->
  ∃fn tmps assign body,(Instr.yield d A.toArray).run P a.a=.ok (.round d fn tmps assign body) a.a/\(Instr.yield d A.toArray).events P a.a #[]=#[⟨.obj d,u,u⟩] /\
  ∀(k:ai->a5->Prop) p g,(∀q b,bc (e q) b->de i a (e q) b->cd o k (G (p.finish (.bool h)) g) b) ->
   cd o k (G (Frame.round d fn tmps assign body .normal) (p::g)) a
def zf{M}{b}(g:M.heap[d]?=f (.loop b)):(Instr.getLoop d).run P M=.ok b M/\∀a,(Instr.getLoop d).events P M a=a.push ⟨.obj d,u,u⟩:=by
 have e:(getObj d).run P M=.ok (.loop b) M:=by simp[getObj,Sem.run,g]
 have h:∀a,(getObj d).events P M a=a.push ⟨.obj d,u,u⟩:=λa=>by simp only[getObj,Sem.events,Sem.runT,g];rfl
 constructor
 .simp[Instr.getLoop,e]
 intro a;simp[Instr.getLoop,e,h]
def Eg{M}{e gg}(b:M.heap[d]?=f (.loop e)):(setObj d (.loop gg)).run P M=.ok () {M with heap:=M.heap.setIfInBounds d (.loop gg)}/\∀a,(setObj d (.loop gg)).events P M a=a.push ⟨.obj d,l,u⟩:=by
 constructor
 .simp only[setObj,Sem.run,b]
 intro a;simp[setObj,Sem.events,Sem.runT,b];rfl
def abt{M}{a}{args}(i:M.heap[d]?=f (.loop a))(b:args.size=a.params.size):
  (Instr.yield d args).run P M=.ok (.round d a.fn ((a.params.zip args).foldl (λtmps (j,g)=>tmps.setIfInBounds j g) a.tmps) a.assign a.body) M/\(Instr.yield d args).events P M #[]=#[⟨.obj d,u,u⟩]:=by
 obtain⟨e,h⟩:=zf (P:=P) i;constructor
 .simp[Instr.yield,e,b]
 simp[Instr.yield,e,h,b]
def abl{M}{a}(h:M.heap[d]?=f (.loop a))(b:a.state=.ready):
  (Instr.beginRound d).run P M=.ok () {M with heap:=M.heap.setIfInBounds d (.loop {a with state:=.busy})}/\(Instr.beginRound d).events P M #[]=#[⟨.obj d,u,u⟩,⟨.obj d,l,u⟩]:=by
 obtain⟨e,i⟩:=zf (P:=P) h;obtain⟨g,j⟩:=Eg (P:=P) (gg:={a with state:=.busy}) h;constructor
 .simp[Instr.beginRound,e,g,b]
 simp[Instr.beginRound,e,i,g,j,b]
def abo{M}{a}(g:M.heap[d]?=f (.loop a))(t):
  (Instr.endRound d t).run P M=.ok (.bool t.isNone) {M with heap:=M.heap.setIfInBounds d (.loop {a with state:=if t.isNone then .ready else .done,pending:=t})}/\(Instr.endRound d t).events P M #[]=#[⟨.obj d,u,u⟩,⟨.obj d,l,u⟩]:=by
 obtain⟨b,h⟩:=zf (P:=P) g;obtain⟨e,i⟩:=Eg (P:=P) (gg:={a with state:=if t.isNone then .ready else .done,pending:=t}) g;constructor
 .simp only[Instr.endRound,cJ,b,e,c8,dZ]
 simp only[Instr.endRound,aD,b,h,e,i,aG,Sem.events_pure];rfl
def abn{M}{a}(g:M.heap[d]?=f (.loop a))(b:a.state≠.busy):
  (Instr.endLoop d).run P M=.ok a.pending {M with heap:=M.heap.setIfInBounds d (.loop {a with state:=.exhausted})}/\(Instr.endLoop d).events P M #[]=#[⟨.obj d,u,u⟩,⟨.obj d,l,u⟩]:=by
 obtain⟨e,h⟩:=zf (P:=P) g;obtain⟨j,i⟩:=Eg (P:=P) (gg:={a with state:=.exhausted}) g;have k:(a.state==.busy)=u:=by cases m:a.state<;>simp_all
 constructor
 .simp[Instr.endLoop,e,j,b]
 simp[Instr.endLoop,e,h,i,b]
section steps
variable {i:aJ}{w:Act}{h:m Item}{M:au}{eV:Bool}
def abu(cz:r.op=.call {callee:=.value cP,args:=ag,argTypes:=dt})(q:w.eval cP=.func (.yield d) #[] #[]):
  (ab w.eval r).run P M=(Instr.yield d (ag.toList.map w.eval).toArray).run P M/\(ab w.eval r).events P M #[]=(Instr.yield d (ag.toList.map w.eval).toArray).events P M #[]:=by
 have K:ag.map w.eval=(ag.toList.map w.eval).toArray:=N;constructor
 .exact Rm
 exact Rm
def abG{br}{fn}{tmps}{assign body}(a:aF[e]?=f r)(g:aS r (yielded aF w.tmps)=l)(k:i.kind≠.early)(j:(ab w.eval r).run P M=.ok (.round d fn tmps assign body) bj):
  ar P eV (G (i.N w (.inRegion aF (e::br)::h)) ah) M=.go (G (Frame.round d fn tmps assign body .normal) (i.N w (.inRegion aF (e::br)::h)::ah)) bj (Go.Conc.listed P i.fn w r M):=by have b:(i.kind==CallKind.early)=u:=N;rw[zk a g (λm o=>by grind[x3])];simp[stepG.apply,j,G,Frame.N,b,GStep.after,Go.Conc.listed]
def abB{a}(k:i.roundOf=f d)(o:i.kind≠.early)(m:M.heap[d]?=f (.loop a))(g:a.state=.ready):
  ar P eV (G (i.N w (.beginRound::h)) ah) M=.go (G (i.N w h) ah) {M with heap:=M.heap.setIfInBounds d (.loop {a with state:=.busy})} (seen P i.fn #[⟨.obj d,u,u⟩,⟨.obj d,l,u⟩]):=by obtain⟨j,e⟩:=abl (P:=P) m g;have b:(i.kind==CallKind.early)=u:=N;simp[G,ar,stepG.exec,stepG.apply,Frame.N,k,b,j,e,GStep.after,Frame.finish]
def abH{b}{t}{a}{q}(B:i.roundOf=f d)(bW:i.kind=.normal)(e:M.heap[d]?=f (.loop b))(g:(t=n/\a=[])∨(t=f .ret/\∃k1,a=.code .ret::k1)∨(∃id k1,t=f (.exit id)/\a=.code (.exit id)::k1/\exitTo id k1=n)):
  ar P eV (G (i.N w a) (q::ah)) M=.go (G (q.finish (.bool t.isNone)) ah) {M with heap:=M.heap.setIfInBounds d (.loop {b with state:=if t.isNone then .ready else .done,pending:=t})} (seen P i.fn #[⟨.obj d,u,u⟩,⟨.obj d,l,u⟩]):=by
 obtain⟨K,al⟩:=abo (P:=P) e t;rcases g with⟨rfl,rfl⟩|⟨rfl,k1,rfl⟩|⟨id,k1,rfl,rfl,z⟩
 .simp only[Option.isNone_none,dH]at K;exact Pa
 .simp only[Option.isNone_some,dm,j7]at K;exact Pa
 simp[Option.isNone_some,dm,j7]at K;simp[G,ar,stepG.exec,Frame.N,B,K,al,GStep.after,doReturn,bW,z]
def abC{a}(j:M.heap[d]?=f (.loop a))(g:a.state≠.busy):
  ar P eV (G (i.N w (.endRangeFunc d::h)) ah) M=.go (G (i.N w ((a.pending.map Item.code).toList++h)) ah) {M with heap:=M.heap.setIfInBounds d (.loop {a with state:=.exhausted})} (seen P i.fn #[⟨.obj d,u,u⟩,⟨.obj d,l,u⟩]):=by obtain⟨b,e⟩:=abn (P:=P) j g;simp[G,ar,stepG.exec,Frame.N,b,e,GStep.after]
def abp{fn}{tmps}{params}{assign body}:
  (Instr.enterLoop fn tmps params assign body n).run P M=.ok (M.heap.size+1,[{target:=.collected M.heap.size,args:=#[]}]) {M with heap:=(M.heap.push (.deferred (f []))).push (.loop {state:=.ready,pending:=n,fn,tmps,params,assign,body,defers:=M.heap.size})} /\
  (Instr.enterLoop fn tmps params assign body n).events P M #[]=#[]:=by
 have d:∀b M,(newObj b).run P M=.ok M.heap.size {M with heap:=M.heap.push b}:=λb M=>by simp[newObj,Sem.run]
 have e:∀b M a,(newObj b).events P M a=a:=λb M a=>by simp[newObj,Sem.events,Sem.runT]
 constructor
 .simp[Instr.enterLoop,d];rfl
 simp[Instr.enterLoop,d,e]
def abF{b}{Z}{assign body}{a}{fn}{q}(x:i.roundOf=n)(p:i.kind≠.early)(r:P.funcs[a]?=f fn)(z:(fn.name== "runtime.NumGoroutine")=u)(y:fn.body.isNone=u)(s:w.eval b=.func (.func a) #[] q.toArray):
  ar P eV (G (i.N w (.code (.rangeFunc b Z assign body)::h)) ah) M =
   .go (G (Frame.enter P a (Value.func (.yield (M.heap.size+1)) #[] #[]::q).toArray .normal) (i.N {w with defers:={target:=.collected M.heap.size,args:=#[]}::w.defers} (.inRangeFunc (M.heap.size+1)::h)::ah))
    {M with heap:=(M.heap.push (.deferred (f []))).push (.loop {state:=.ready,pending:=n,fn:=i.fn,tmps:=w.tmps,params:=Z,assign,body,defers:=M.heap.size})} #[]:=by
 obtain⟨v,t⟩:=abp (P:=P) (M:=M) (fn:=i.fn) (tmps:=w.tmps) (params:=Z) (assign:=assign) (body:=body);have o:(i.kind==CallKind.early)=u:=N;have m:fn.name≠ "runtime.NumGoroutine":=N;have k:fn.body≠n:=N;have e:∀d j g,({fn:=i.fn,tmps:=w.tmps,todo:=j,defers:=d,mode:=g,kind:=i.kind,roundOf:=i.roundOf}:aJ).eval b=.func (.func a) #[] q.toArray:=by intro d j g;rw[<-s];cases b<;>rfl
 simp[G,ar,stepG.exec,Frame.N,x]at e⊢;simp[v,t,GStep.after,stepG.apply,resolve,e,Deferred.ofValue,invoke,callFunc,r,m,k,o,seen];rfl
end steps
end
section
variable {p:af P}
def bc.fJ(i:bc k b){g:Nat}{a}{m}(aI:k[g]?=f (.loop D a m))(j:∃L,b.s[g]?=f L/\L.v=.func (.yield d) #[] #[]):
  ∃tmps fn e,b.s[g]?=f ⟨.func (.yield d) #[] #[],[d]⟩/\b.a.heap[d]?=f (.loop {m with tmps:=tmps,fn:=fn,defers:=e})/\tmps.size=D/\(∀o,bv k b (tmps.getD o I) (look a o))/\(∀r,b.u d r=n):=by obtain⟨L,h,p⟩:=j;obtain⟨q,tmps,fn,e,x,t,w,s,v⟩:=i.box g _ L aI h;grind
def bc.gG(i:bc k b){j}{h}{v gg}{ea}(aI:k[j]?=f (.loop D h v)){tmps}{fn e}(x:b.s[j]?=f ⟨.func (.yield d) #[] #[],[d]⟩)(C:b.a.heap[d]?=f (.loop {v with tmps:=tmps,fn:=fn,defers:=e}))(M:tmps.size=D)(B:∀o,bv k b (tmps.getD o I) (look h o))(J:∀t,b.u d t=n)(w:ea=.J∨ea=.loop D h gg):
  bc (k.set j ea) {b with a:={b.a with heap:=b.a.heap.setIfInBounds d (.loop {gg with tmps:=tmps,fn:=fn,defers:=e})}}/\cN k b (k.set j ea) {b with a:={b.a with heap:=b.a.heap.setIfInBounds d (.loop {gg with tmps:=tmps,fn:=fn,defers:=e})}}:=by
 have S:d<b.a.heap.size:=i.lt _ (b' x) d E;have r:∀g,g≠d->(b.a.heap.setIfInBounds d (.loop {gg with tmps:=tmps,fn:=fn,defers:=e}))[g]?=b.a.heap[g]?:=λg m=>by grind
 have R:b.s.set j ⟨.func (.yield d) #[] #[],[d]⟩=b.s:=mX;have Q:j<c k:=(cO.1 aI).1;have z:fP (.loop D h v) ⟨.func (.yield d) #[] #[],[d]⟩ ea ⟨.func (.yield d) #[] #[],[d]⟩:=by rcases w with rfl|rfl<;>rfl
 have p:fv k b (k.set j ea) {b with a:={b.a with heap:=b.a.heap.setIfInBounds d (.loop {gg with tmps:=tmps,fn:=fn,defers:=e})}}:=by
  refine⟨λ_ _ _ q=>q,λF y L U A=>?_⟩;by_cases O:j=F
  .grind
  exact⟨y,L,by grind,A,.refl _ _⟩
 have:=i.b8 (cf:=b.u) (bj:={b.a with heap:=b.a.heap.setIfInBounds d (.loop {gg with tmps:=tmps,fn:=fn,defers:=e})}) (ea:=ea) (ct:=⟨.func (.yield d) #[] #[],[d]⟩) aI x z E (λg _ m=>r g N) (λ_ _ _ _=>rfl) (λ_ _ _ q=>q)
  (λg t K s=>by
   have T:g≠d:=N;rw[<-i.mem g t K s];simp[aL]
   grind) (λg m=>by grind) a a a (by
   rcases w with rfl|rfl
   .trivial
   .refine⟨d,tmps,fn,e,a,N,M,λo=>?_,J⟩
    .have:=(B o).mono p i.len
     grind)
 grind
def g.yield{d:ι->m an}{e}{bg}{res}(ah:iD p e bg k res d)(G:r.guard=n)(aj:fp D r.dst=l)(S:r.op=.call {callee:=.value cP,args:=ag,argTypes:=dt}){N0}{im}{ba}(Q:k[e]?=f (.loop N0 im ba))(af:bE F cP=.n (.ar (.aK e)))(aJ:ag.toList.map (bE F)=bg)(h:∀T,g p D be (.S all br::av) .normal (gf r.dst (ax (.bool res)) F) (d T)):g p D be (.S all (r::br)::av) .normal F k:=by
 intro aI w ao v i y I Z idx t b R;cases idx with
 |nil=>exact b.elim
 |cons T idx=>
 refine .next a λs aD=>?_;have X:=p.bM aD;have q:=v.rely X;have j:=ao.rely X v;have O:=eQ j cP;rw[af]at O;obtain⟨_,L,V,aE,_⟩:=(show cB _ s _ (.aK e)from O)
 obtain⟨U,tmps,fn,aG,aM,aH,aq,ar,au⟩:=q.box e _ L Q V;subst aM;have aw:b4 k s (ag.toList.map w.eval) bg:=by grind[m5,eQ]
 obtain⟨aF,aK,assign,body,H,al,ae⟩:=ah s (ag.toList.map w.eval) U aw q ⟨_,V,rfl⟩;obtain⟨ab,ai⟩:=abu (P:=P) (M:=s.a) (w:=w) S aE;refine⟨_,s,_,abG b.1 (i5 G) t (ab.trans H),⟨⟨k,k,q,q,.refl _ _⟩,dw.seen ?_⟩,ae Z _ _ λY z x o=>?_⟩
 .rw[ai,al];exact .ar (mu (L:=⟨.func (.yield U) #[] #[],[U]⟩) (b' V) E)
 have K:=qq (i:=i) (w:=w) (h:=y) all.toArray T idx (.bool res);rw[b.1]at K;simp[n0]at K;rw[K];refine h Y z _ ?_ x i y I Z idx t b.2 λaz B W C aB J N A=>R az B W C aB J N ((X.aH.trans o).trans A);cases aa:r.dst with
 |none=>exact j.mono o q.len
 |some aC=>exact(j.mono o q.len).put (k_ aj aC aa) (show bv (d Y) z (.bool res) (ax (.bool res))from Rd.bool)
def rp:m Tmp->m y->bH->bH
 |g::d,e::b,a=>rp d b ((g,e)::a)
 |_,_,a=>a
def y8(b:Nat):m Tmp->Bool
 |[]=>l
 |d::a=>match ay (d+1) b with|true=>y8 b a|false=>u
def GY{D}{k}{b}:∀{e:m Tmp}{a:m y}{A:m Y}{F:bH}{w:Act},bZ D k b F w->b4 k b A a->y8 D e=l->bZ D k b (rp e a F) {w with tmps:=(e.zip A).foldl (λtmps (i,j)=>tmps.setIfInBounds i j) w.tmps}
 |[],a,A,F,w,d,_,_=>by simpa[rp]using d
 |_::_,[],[],F,w,d,_,_=>by simpa[rp]using d
 |_::_,[],_::_,F,w,d,g,_=>g.elim
 |_::_,_::_,[],F,w,d,g,_=>g.elim
 |i::p,K::a,j::A,F,w,d,g,h=>by
  simp[y8]at h;split at h
  .rename_i o;have:=GY (d.put (K:=i) (fl o) g.1) g.2 h;simpa[rp,Act.put]using this
  grind
def Zs:Exit->Option (Option Code)
 |.normal=>f n
 |.ret=>f (f .ret)
 |.exit id=>f (f (.exit id))
 |_=>n
def iD.intro{a6:Type}{h D}{e}{b}{bg}{k}{M:a6->m an}{t}(aS:k[h]?=f (.loop D e b))(bj:b.state=.ready)(aN:c bg=b.params.size)(bl:y8 D b.params.toList=l)(bo:b2 p D b.assign (λB O g=>B=.normal/\g[h]?=f (.loop D e b)/\b2 p D b.body (λB bb y=>Zs B=f t/\y[h]?=f (.loop D e {b with state:=.busy}) /\
   ∃bq,q9 (y.set h (.loop D e {b with state:=if t.isNone then .ready else .done,pending:=t})) (M bq)) O (g.set h (.loop D e {b with state:=.busy}))) (rp b.params.toList bg e) k):iD p h bg k t.isNone M:=by
 intro E A d bm Z aL;obtain⟨tmps,fn,bn,W,aF,aG,aH,bp⟩:=Z.fJ aS aL;have a':c A=b.params.size:=by grind[b4.get]
 obtain⟨a3,a4⟩:=abt (P:=P) (args:=A.toArray) aF N;refine⟨_,_,_,_,a3,a4,λaj al j aI=>?_⟩;let J:aJ:={fn:=fn,tmps:=#[],todo:=[],defers:=[],mode:=.run,kind:=.normal,roundOf:=f d}
 have q:J.kind≠.early:=by simp[J]
 have aK:bZ D k E (rp b.params.toList bg e) {tmps:=(b.params.zip A.toArray).foldl (λtmps (a2,w)=>tmps.setIfInBounds a2 w) tmps,defers:=[]}:=by
  have:=GY (w:={tmps:=tmps,defers:=[]}) (F:=e) ⟨aG,⟨[],v⟩,aH⟩ bm bl;have B:(b.params.zip A.toArray).foldl (λtmps (ag:Tmp×Y)=>tmps.setIfInBounds ag.1 ag.2) tmps=(b.params.toList.zip A).foldl (λtmps (ag:Tmp×Y)=>tmps.setIfInBounds ag.1 ag.2) tmps:=by rw[<-Array.foldl_toList];simp
  grind
 show cd p aj (G (J.N {tmps:=(b.params.zip A.toArray).foldl (λtmps (a2,w)=>tmps.setIfInBounds a2 w) tmps,defers:=[]} [.code b.assign,.beginRound,.code b.body]) (al::j)) E;refine bo E _ aK Z J [.beginRound,.code b.body] (al::j) aj q ?_;rintro B O g bs aw ⟨rfl,aR,br⟩ az s x;refine .next a λa0 aa=>?_;have H:=p.bM aa;have S:=s.rely H;have aB:=az.rely H s;have bk:∃L,a0.s[h]?=f L/\L.v=.func (.yield d) #[] #[]:=by obtain⟨aq,z,k1,av,au⟩:=(x.trans H.aH).box h _ _ aS W;rw[aR]at k1;cases k1;exact⟨z,av,au⟩
 obtain⟨bw,a9,a7,U,V,aC,aD,aE⟩:=S.fJ aR bk;have ai:=S.gG (gg:={b with state:=.busy}) aR U V aC aD aE (.inr rfl);have Q:∀{E:a5} {k:m an} {L:Loc},E.s[h]?=f L->L.ab=[d]->dw E #[⟨.obj d,u,u⟩,⟨.obj d,l,u⟩]:=λ{E k L} X q=>
  .fi (mu (b' X) N) (mu (b' X) N)
 refine⟨_,_,_,abB (d:=d) a q V bj,⟨⟨_,_,S,ai.1,ai.2⟩,dw.seen (Q (k:=g) U a)⟩,?_⟩;have ba:=ai.2.too1 S;have bh:=ai.1;refine br _ aw (aB.mono ba S.len) bh J [] (al::j) aj q ?_;rintro B bc bf a1 ax ⟨r,aQ,aP,bt⟩ f3 C af;have stA:=((x.trans H.aH).trans ba).trans af;have fin:∀K i,cV a1 i->((t=n/\K=[])∨(t=f .ret/\∃k1,K=.code .ret::k1)∨(∃id k1,t=f (.exit id)/\K=.code (.exit id)::k1/\exitTo id k1=n)) ->
   ∃T I R,ar P p.b4 (G (J.N ax K) (al::j)) i.a=.go T I.a R/\ky i I R/\cd p aj T I:=by
  intro K i o aM;have ao:=C.rely o;have bd:∃L,i.s[h]?=f L/\L.v=.func (.yield d) #[] #[]:=by obtain⟨aq,z,k1,av,au⟩:=(stA.trans o.aH).box h _ _ aS W;rw[aQ]at k1;cases k1;exact⟨z,av,au⟩
  obtain⟨bu,a_,a8,ab,ae,aT,aU,aV⟩:=ao.fJ aQ bd;have ah:=ao.gG (gg:={b with state:=if t.isNone then .ready else .done,pending:=t}) aQ ab ae aT aU aV (.inr rfl);obtain⟨aW,aZ,_⟩:=bt _ ah.1;exact⟨_,_,_,abH (d:=d) a a ae aM,⟨⟨_,_,ao,ah.1,ah.2⟩,dw.seen (Q (k:=bf) ab a)⟩,aI aP _ aW (((stA.trans o.aH).trans (ah.2.too1 ao)).trans (aZ.too1 ah.1))⟩
 cases B with
 |normal=>
  cases r;exact .next a λi o=>fin [] i (p.bM o) (.inl ⟨a,a⟩)
 |ret=>
  cases r;intro pre;exact .next a λi o=>fin _ i (p.bM o) (.inr (.inl ⟨a,pre,a⟩))
 |exit id=>
  cases r;intro pre aO;refine .next a λi o=>fin _ i (p.bM o) (.inr (.inr ⟨id,_,a,a,?_⟩));have:=aO [];simpa[exitTo]using this
 |_=>cases r
end
def dd(p:af P)(k:Nat)(v:Code)(aM:fB)(t:bH)(j:m an):Prop:=
 ∀i q,bZ k j i t q->bc j i->∀h s g (o:ai->a5->Prop),h.kind≠.early->h.roundOf=n ->
  (∀r d a b e,aM r d a->bZ k a b d e->bc a b->de j i a b->kG p o h s g r e b)->cd p o (G (h.N q (.code v::s)) g) i
section
variable {p:af P}{aM:fB}
def b2.bw(m:b2 p D q aM F k):dd p D q aM F k:=λr g j d h o a e b _ i=>m r g j d h o a e b i
theorem dd.seq{N z}(T:dd p D N (wc (dd p D z aM) aM) F k):dd p D (.seq N z) aM F k:=by
 intro W R U e B K g A i b h;refine .ctl e a (λ_=>pD) λV d=>?_;refine T V R (U.rely d e) (e.rely d) B (.code z::K) g A i b ?_;intro r O Q w o M J I y;have C:=d.aH.trans y;cases r with
 |normal=>exact M w o J I B K g A i b λr S m x q v s t j=>h r S m x q v s t (C.trans j)
 |_=>exact kG.cons (λ_ _=>rfl) E (h _ _ _ _ _ M J I C)
theorem dd.block{id}(x:dd p D q (uM id aM) F k):dd p D (.block id q) aM F k:=by
 intro C s y e v h i r j g lP;refine .ctl e a (λ_=>zi) λz d=>?_;refine x z s (y.rely d e) (e.rely d) v (.inBlock id::h) i r j g ?_;intro aj dG aq m fQ bd B al o;have K:=d.aH.trans o;cases aj with
 |normal=>
  exact Pc
 |exit b=>
  simp[uM]at bd;split at bd
  .exact Q5
  .rename_i t
   intro pre vj;have:=lP (.exit b) dG aq m fQ bd B al K (pre++[.inBlock id]) (λgl=>by
    rw[mh,vj];have:(id==b)=u:=N
    simp[exitTo,this])
   grind
 |ret=>exact lP _ _ _ _ _ bd B al K
 |panic w=>exact lP _ _ _ _ _ bd B al K
 |goto A=>exact lP _ _ _ _ _ bd B al K
 |outgrown=>exact lP _ _ _ _ _ bd B al K
def bc.j0(a:bc k b){r:Nat->Prop}(h:∀e,r e->e<b.a.heap.size/\∀L∈b.s,e∉L.ab):bc k {b with own:=r}:=
 ⟨a.mem,a.len,λj d L aI g=>ez.cb (k:=k) (b:=b) (aq:=k) (az:={b with own:=r}) ⟨λ_ _ _ a=>a,λ_ d L a i=>⟨d,L,a,i,.refl _ _⟩⟩ a.len (λ_ _=>⟨rfl,λ_=>rfl⟩) (a.box j d L aI g),a.a1,a.lt,h⟩
def bc.bK(e:bc k b){ba}{r:Nat->Prop}(y:b.own ba)(s:∀i,r i->b.own i)(E:¬r ba)(B:∀C,b.u ba C=n)(w:b.a.heap[ba]?=f (.deferred (f []))):
  bc (k++[.bd]) {b with s:=b.s++[⟨.int .i64 ba,[ba]⟩],own:=r}/\e3 b {b with s:=b.s++[⟨.int .i64 ba,[ba]⟩],own:=r}:=by
 obtain⟨J,I⟩:=e.own ba y;have q:fv k b (k++[.bd]) {b with s:=b.s++[⟨.int .i64 ba,[ba]⟩],own:=r}:=by refine⟨λ_ _ _ e=>e,λm o L aI d=>⟨o,L,N,?_,.refl _ _⟩⟩;grind
 refine⟨⟨e.mem,by simp[e.len],?_,?_,?_,?_⟩,⟨a,λ_ _ _ e=>e,λ_ _ _=>rfl,e.mem,?_⟩⟩
 .intro m o L aI d;rcases rF d with v|⟨g,rfl⟩
  .have g:m<c k:=by rw[<-e.len];grind
   rw[j5 g]at aI;exact(e.box m o L aI v).cb q e.len λ_ _=>⟨a,λ_=>rfl⟩
  rw[g,e.len,hn (bB _)]at aI;simp at aI;subst aI;exact⟨ba,a,w,B⟩
 .intro m t L p d h i cU j;rcases rF d with k1|⟨z,rfl⟩<;>rcases rF h with x|⟨A,rfl⟩
  .exact e.a1 m t L p k1 x i cU j
  .grind
  .grind
  grind
 .intro L d i cU;simp[fC,gK]at d;rcases d with d|rfl
  .exact e.lt L d i cU
  grind
 .intro i cU;obtain⟨F,D⟩:=e.own i (s i cU);grind
 grind
def y5:Option Code->Option Exit
 |none=>f .normal
 |some .ret=>f .ret
 |some (.exit id)=>f (.exit id)
 |_=>n
def dd.rangeFunc{bN}{Z}{assign body}{bH}{o8}{aq:ι->m an}{gg:ι->Loop}(aF:∀b w,bZ D k b F w->bc k b->∃aW:m Y,w.eval bN=.func (.func bH) #[] aW.toArray/\b4 k b aW o8)(aG:bk p bH (.n (.ar (.aK (c k)))::o8) (k++[.loop D F {state:=.ready,pending:=n,fn:=0,tmps:=#[],params:=Z,assign:=assign,body:=body,defers:=0}]) res aq)(bl:∀t,(aq t)[c k]?=f (.loop D F (gg t))/\(gg t).state≠.busy)(h:∀t,∃al,y5 (gg t).pending=f al/\aM al F ((aq t).set (c k) .J++[.bd])):dd p D (.rangeFunc bN Z assign body) aM F k:=by
 intro b w bb aJ i A ah bL d aQ bh;obtain⟨⟨fn,aH,X,H⟩,bV⟩:=aG;refine .next a λe aO=>?_;have aa:=p.bM aO;have y:=aJ.rely aa;have C:=bb.rely aa aJ;obtain⟨aW,bs,Q⟩:=aF e w C y;generalize aP:e.a.heap.size=ba;have bT:=λeV=>abF (P:=P) (eV:=eV) (h:=A) (ah:=ah) (Z:=Z) (assign:=assign) (body:=body) (i:=i) (M:=e.a) aQ d aH X H bs;rw[aP]at bT;let w1:au:={e.a with heap:=e.a.heap.push (.deferred (f []))}
 let aT:Loop:={state:=.ready,pending:=n,fn:=i.fn,tmps:=w.tmps,params:=Z,assign:=assign,body:=body,defers:=ba}
 let w2:au:={e.a with heap:=(e.a.heap.push (.deferred (f []))).push (.loop aT)}
 have bQ:w2.heap.size=ba+2:=N;have br:w1.heap.size=ba+1:=N;have aK:∀i,i<e.a.heap.size->w1.heap[i]?=e.a.heap[i]?:=λi d=>by grind
 have b0:∀i,i<w1.heap.size->w2.heap[i]?=w1.heap[i]?:=λi d=>by grind
 have bI:∀i,i<e.a.heap.size->w2.heap[i]?=e.a.heap[i]?:=λi d=>by grind
 have bt:w2.heap[ba]?=f (.deferred (f [])):=N;have bX:w2.heap[ba+1]?=f (.loop aT):=N;have bx:∀i,e.a.heap.size<=i->∀r,e.u i r=n:=λi d r=>by
  cases s:e.u i r with
  |none=>rfl
  |some af=>have:=y.block s;omega
 let j:Loc:=⟨.func (.yield (ba+1)) #[] #[],[ba+1]⟩
 let J:Loc:=⟨.int .i64 ba,[ba]⟩
 let ai:Loop:={state:=.ready,pending:=n,fn:=0,tmps:=#[],params:=Z,assign:=assign,body:=body,defers:=0}
 obtain⟨bd,bf⟩:=y.cY (cf:=e.u) (bj:=w2) x bI (λ_ _ _=>rfl) (λi d r af s=>by grind) rfl rfl rfl;have bG:fv k e (k++[.loop D F ai]) ⟨e.s++[j],e.u,w2,e.own⟩:=by refine⟨λ_ _ _ bg=>bg,λbR bS L aI g=>⟨bS,L,N,?_,.refl _ _⟩⟩;grind
 obtain⟨V,b1⟩:=bd.bX (bS:=.loop D F ai) (L:=j) bf rfl y ⟨ba+1,w.tmps,i.fn,ba,rfl,bX,C.size,λb6=>(C.al b6).mono bG y.len,λr=>bx _ x r⟩ (λi d=>by grind)
 have aC:=V.j0 (r:=λi=>e.own i∨i=ba) (by
  rintro i (d|rfl)
  .exact V.own i d
  .refine⟨by grind,λL g=>?_⟩;simp[fC,gK]at g;rcases g with g|rfl
   .intro I;have:=y.lt L g i I;omega
   grind)
 have d1:=y.d';obtain⟨a0,a1⟩:=d1.cY (cf:=e.u) (bj:=w1) x aK (λ_ _ _=>rfl) (λi d r af s=>by grind) rfl rfl rfl;obtain⟨ao,a2⟩:=a0.bX (bS:=.J) (L:=J) a1 rfl d1 v (λi d=>by grind);obtain⟨a3,a4⟩:=ao.cY (cf:=e.u) (bj:=w2) N b0 (λ_ _ _=>rfl) (λi d r af s=>by grind) rfl rfl rfl;obtain⟨a6,a7⟩:=a3.bX (bS:=.J) (L:=j) a4 rfl ao v (λi d=>by grind);have aD:e3 ⟨e.s++[J]++[j],e.u,w2,e.own⟩ ⟨e.s++[j],e.u,w2,λi=>e.own i∨i=ba⟩:=by
  refine⟨a,λ_ _ _ bg=>bg,λ_ _ _=>rfl,V.mem,?_⟩;rintro i ((d|rfl)|⟨L,g,d⟩)
  .grind
  .exact .inr ⟨J,by simp,by grind⟩
  grind
 refine⟨_,⟨e.s++[J]++[j],e.u,w2,e.own⟩,_,bT p.b4,⟨⟨_,_,d1,a6,a2.trans a7⟩,.nil⟩,.aS aD (bV _ (Value.func (.yield (ba+1)) #[] #[]::aW) ?_ aC bL _ λt bO af b3 b7 bq S aV=>?_)⟩
 .refine⟨⟨λbS B=>?_,j,?_,a,a⟩,?_⟩
  .rw[hn (bB _)]at B;simp at B;subst B;rfl
  .show (e.s++[j])[c k]?=_;rw[<-y.len,hn (bB _)];simp
  exact Q.mono (k:=k) (b:=e) (aq:=k++[.loop D F ai]) (az:=⟨e.s++[j],e.u,w2,λi=>e.own i∨i=ba⟩) ⟨bG.mem,bG.box⟩ y.len
 have W:(i.N {w with defers:={target:=.collected ba,args:=#[]}::w.defers} (.inRangeFunc (ba+1)::A)).finish af=i.N {w with defers:={target:=.collected ba,args:=#[]}::w.defers} (.endRangeFunc (ba+1)::A):=cT;refine uH (ah:=ah) (q:=i.N {w with defers:={target:=.collected ba,args:=#[]}::w.defers} (.inRangeFunc (ba+1)::A)) S b7 λb5 bJ=>?_;rw[W];refine .next a λR bY=>?_;have bM:=p.bM bY;have aZ:=(S.rely bJ).rely bM;have bK:=(aV.trans bJ.aH).trans bM.aH;obtain⟨O,aL⟩:=bl t;have aE:∃L,R.s[c k]?=f L/\L.v=.func (.yield (ba+1)) #[] #[]:=by obtain⟨ea,ag,k1,aR,aS⟩:=bK.box (c k) (.loop D F ai) j (show(k++[an.loop D F ai])[c k]?=_ from wV) (by show(e.s++[j])[c k]?=_;rw[<-y.len,hn (bB _)];simp);rw[O]at k1;cases k1;exact⟨ag,aR,aS⟩
 obtain⟨bU,ar,aj,ab,aU,bA,bC,bD⟩:=aZ.fJ O aE;obtain⟨K,ae⟩:=aZ.gG (gg:={gg t with state:=.exhausted}) (ea:=.J) O ab aU bA bC bD (.inl rfl);refine⟨_,_,_,abC aU aL,⟨⟨_,_,aZ,K,ae⟩,dw.seen (.fi (mu (b' ab) E) (mu (b' ab) E))⟩,?_⟩;have z:=bK.trans (ae.too1 aZ);generalize bP:({R with a:={R.a with heap:=R.a.heap.setIfInBounds (ba+1) (.loop {{gg t with state:=.exhausted}with tmps:=bU,fn:=ar,defers:=aj})}}:a5)=o at K ae z;have aB:o.own ba:=by rw[z.own];grind
 have ax:o.a.heap[ba]?=f (.deferred (f [])):=by rw[z.aV ba (.inr a)];omega
 have aw:∀r,o.u ba r=n:=λr=>by rw[z.bz ba N (λL g=>(aC.own ba (.inr a)).2 L g)];grind
 obtain⟨bE,t2⟩:=K.bK (ba:=ba) (r:=e.own) aB (λi d=>by rw[z.own];grind) (λI=>by have:=(y.own ba I).1;omega) aw ax;refine .aS t2 ?_;have bF:de k e ((aq t).set (c k) .J++[.bd]) {o with s:=o.s++[⟨.int .i64 ba,[ba]⟩],own:=e.own}:=by
  refine⟨N,λi d=>?_,λi r af s=>z.mem i r af s,λi d b2 r=>?_,λL g i d=>?_,λbR bS L aI g=>?_,z.os,z.tape,z.output,a⟩
  .show o.a.heap[i]?=_;rw[z.aV i (.inl d)];exact bI i (y.own i d).1
  .show o.u i r=_;rw[z.bz i N (λL g=>?_)];grind
  .simp only[fC,gK]at g;rcases g with g|rfl
   .rcases z.bN L g i d with av|⟨bW,av,dr⟩
    .grind
    grind
   grind
  have bo:=(cO.1 aI).1;have bm:=(cO.1 g).1;obtain⟨ea,ag,k1,aR,aS⟩:=z.box bR bS L N N;grind
 have a9:bZ D ((aq t).set (c k) .J++[.bd]) {o with s:=o.s++[⟨.int .i64 ba,[ba]⟩],own:=e.own} F {w with defers:={target:=.collected ba,args:=#[]}::w.defers}:=by
  have s:=C.mono bF y.len;obtain⟨bu,U⟩:=C.defers;refine⟨s.size,⟨c ((aq t).set (c k) .J)::bu,⟨⟨N,⟨.int .i64 ba,[ba]⟩,ba,?_,a,a⟩,λI=>?_,U.mono bF.ext⟩⟩,s.al⟩
  .show (o.s++_)[_]?=_;rw[<-K.len,hn (bB _)];simp
  have av:=U.e6 _ I;grind
 obtain⟨al,B,bp⟩:=h t;have bz:=bh al F _ _ _ bp a9 bE (aa.aH.trans bF);revert B;show y5 (gg t).pending=f al->cd p bL (G (i.N _ (((gg t).pending.map Item.code).toList++A)) ah) _;intro B;cases aN:(gg t).pending with
 |none=>rw[aN]at B;cases B;exact bz
 |some q=>
  rw[aN]at B;cases q<;>simp[y5,reduceCtorEq,e4]at B
  .subst B;exact bz [] bn
  subst B;exact bz A
def bZ.callee{o}{h}(d:look F o=ax (.fn (.func h) [] cap)):∀g a,bZ D k g F a->bc k g->∃e:m Y,a.eval (.tmp o)=.func (.func h) #[] e.toArray/\b4 k g e (fc cap):=by
 intro g a p _;have b:=p.al o;rw[d]at b;have b:=b8 b;show ∃e:m Y,a.tmps.getD o I=.func (.func h) #[] e.toArray/\_;generalize a.tmps.getD o I=y at b;cases b with
 |fn s j d i q r t v w x=>
  grind[qi]
def bk.e5{h}{fn}{args}{aq:ι->m an}(v:P.funcs[h]?=f fn)(s:(fn.name== "runtime.NumGoroutine")=u)(o:fn.body=f q)(C:ay args.length fn.ntmps=l)(D:kx args k->dd p fn.ntmps q (λB w g=>∃t,bX fn k.length (res t) (aq t) B w g) (h6 0 args) k):bk p h args k res aq:=by refine⟨⟨fn,v,s,by grind⟩,λe A b a=>?_⟩;exact(bk.hP v s o (fl C) λI y h E z F i x r d j=>D ⟨e,A,b,a⟩ I y h E z F i x r d j).2 e A b a
def RZ(fn:Func)(e:y)(a:m an):fB:=λi j g=>
 (i=.ret∨i=.normal)/\g=a/\jQ a=l/\∃b h d,oG j fn.results.toList=f b/\pp b=f h/\kk h e=f d/\T d
def bk.bO{i}{fn}{args}{aq:ι->m an}(Y:P.funcs[i]?=f fn)(au:(fn.name== "runtime.NumGoroutine")=u)(K:fn.body=f q)(W:ay args.length fn.ntmps=l)(ao:b2 p fn.ntmps q (λaj af g=>∃X,RZ fn (res X) (aq X) aj af g) (h6 0 args) k):bk p i args k res aq:=by
 refine⟨⟨fn,Y,au,by grind⟩,λaB A N M V h J=>?_⟩;obtain⟨ar,aF⟩:=b4.get N;let t:aJ:={fn:=i,tmps:=#[],todo:=[],defers:=[],mode:=.run,kind:=.normal,roundOf:=n}
 have ah:Frame.enter P i A.toArray .normal=t.N {tmps:=A.toArray++Array.replicate (fn.ntmps-A.toArray.size) I,defers:=[]} [.code q]:=by simp[Frame.enter,Frame.N,Y,K,t]
 rw[ah];have W:=fl W;refine ao aB {tmps:=A.toArray++Array.replicate (fn.ntmps-A.toArray.size) I,defers:=[]} ⟨by grind,⟨[],v⟩,λo=>?_⟩ M t [] h V E ?_
 .rw[yE];simp[g1,dH,sq];have:=aF o;rcases dW o (c A) with aH|aG
  .exact Qy
  rw[wZ x];trivial
 rintro aj ag g T e ⟨aa,S,rfl,aw,w,ai,ax,D,F,ab,Q⟩ O s U;have fin:∀b d,cV T d->b.fn=i->b.tmps=e.tmps->b.defers=e.defers->b.mode=.returning->b.kind=.normal->cd p V (G b h) d:=by
  intro b d a y z al B C;have j:=O.rely a s;obtain⟨aC,aE,ae,aD⟩:=Mc (P:=P) j D F;obtain⟨r,R⟩:=j.defers;have H:e.defers=[]:=by
   cases r with
   |nil=>cases az:e.defers with
    |nil=>rfl
    |cons ai w=>rw[az]at R;exact R.elim
   |cons av r=>exact absurd rfl (vC aw _ (b' (R.e6 av E)))
  refine J aa b aC _ ⟨y,B,by grind,C,fn,by grind,λZ _=>?_⟩ (pq ab Q ae) (s.rely a) (U.trans a.aH);rw[z];exact⟨aE Z,λaj S=>by rw[aD Z #[]]at S;grind⟩
 rcases S with rfl|rfl
 .intro pre;exact .ctl s rfl (λ_=>Ep rfl) λd a=>fin _ d a rfl rfl (hL _) rfl rfl
 exact .ctl s rfl (λ_=>En rfl) λd a=>fin _ d a rfl rfl (hL _) rfl rfl
end
structure ur{P:aE}(p:af P)(D:Nat)(aF:Array ap)(F:bH)(k:m an)(C:Nat->y)(q:Nat->bH)(idx:Nat->Option Nat)(last:Nat):Prop where
 cO:∀e r,aF[e]?=f r->∀aj∈r.after,eS aj=l->aj.on<e
 eV:∀e r K,aF[e]?=f r->r.dst=f K->idx K=f e/\K<D
 dQ:∀K e,idx K=f e->∃r,aF[e]?=f r/\r.dst=f K
 ar:∀e r,aF[e]?=f r->e≠last->aK p D aF.toList r (q e) k (C e) k
 eU:∀e r,aF[e]?=f r->e≠last->∀o k b aa,bv k b aa (match idx o with|some t=>(if ∃aj∈r.after,eS aj=l/\aj.on=t then C t else .any)|none=>look F o)->bv k b aa (look (q e) o)
 hv:∀r,aF[last]?=f r->∀t,t<aF.size->t≠last->∃aj∈r.after,eS aj=l/\aj.on=t
 ei:last<aF.size
section
variable {p:af P}{C:Nat->y}{q:Nat->bH}{idx:Nat->Option Nat}{last:Nat}
theorem Kz{a o}(i:∀b,b<aF.size->L.getD b l=l):Region.linearise.go .any aF a o L []=[]:=by
 cases a with
 |zero=>exact Dt o L
 |succ j=>
  have d:aQ .any aF L=[]:=by
   cases d:aQ .any aF L with
   |nil=>rfl
   |cons e g=>
    have h:e∈aQ .any aF L:=N;grind[pr]
  grind[vw]
def ur.eP(s:ur p D aF F k C q idx last){W:ai->a5->Prop}{y:aJ}{J}(A:y.kind≠.early){cG}(aa:∀d i,i.tmps.size=D->(∀b,bv k d (i.tmps.getD b I) (match idx b with|some m=>if m=last then .any else C m|none=>look F b))->i.defers=[]->bc k d->de k cG k d->cd p W (G (y.N i (.inRegion aF [last]::J)) ah) d):
  ∀E L,L.size=aF.size->c (L.toList.filter (λy=>!y))<=E->¬L.getD last u=l ->
   (∀e w,aF[e]?=f w->L.getD e u=l->∀g∈w.after,eS g=l->L.getD g.on u=l) ->
   ∀d i,l8 D k d (gH F C idx L) i->i.defers=[]->bc k d->de k cG k d ->
   ∀b,cd p W (G (y.N i (.inRegion aF (Region.linearise.go .any aF E b L [])::J)) ah) d:=by
 intro E;induction E with
 |zero=>
  intro L aj ab an aE d i t S v M b;exfalso;have T:L[last]'(by have:=s.ei;omega)∈L.toList:=by simp
  have az:=s.ei;cases A:L[last]'x with
  |true=>exact an (by simp[hu,iE (by omega:last<L.size),A])
  |false=>
   have:L[last]'x∈L.toList.filter (λy=>!y):=jd.2 ⟨T,by grind⟩;grind
 |succ E al=>
  intro L aj ab an aE d i t S v M b;rw[vw];cases aw:(aQ .any aF L)[b % c (aQ .any aF L)]? with
  |none=>
   exfalso;have ag:aQ .any aF L=[]:=by
    cases ag:aQ .any aF L with
    |nil=>rfl
    |cons aO aN=>
     grind[Nat.mod_lt]
   have ax:∀e,e<aF.size->L.getD e u=l:=by
    intro e;induction e using Nat.strongRecOn with
    |_ e au=>
     intro B;cases A:L.getD e u with
     |true=>rfl
     |false=>
      have T:e∈aQ .any aF L:=pr.2 ⟨aF[e],iE B,by
       grind,λg X V=>by
       have:=s.cO e _ (iE B) g X V
       grind⟩
      grind
   exact an (ax last s.ei)
  |some e=>
   have B:=b' aw;obtain⟨w,o,ar,af⟩:=pr.1 B;have az:e<aF.size:=(jb.1 o).1;have H:¬L.getD e u=l:=N;by_cases ao:e=last
   .subst ao;have Q:Region.linearise.go .any aF E (b / c (aQ .any aF L)) (L.setIfInBounds e l) []=[]:=by
     refine Kz λm ae=>?_;have aq:(L.setIfInBounds e l).getD m u=l:=by
      rw[mx x];by_cases g:m=e
      .grind
      obtain⟨Z,X,V,rfl⟩:=s.hv w o m ae g;grind
     grind
    simp[Q];refine aa d i t.size (λb=>?_) S v M;have:=t.al b;unfold gH at this;cases h:idx b with
    |none=>grind
    |some m=>
     simp only[h]at this⊢;obtain⟨vE,bz,_⟩:=s.dQ _ _ h;by_cases g:m=e
     .rw[bo g];trivial
     rw[bl g];obtain⟨Z,X,V,rfl⟩:=s.hv w o m (jb.1 bz).1 g;grind
   have aI:(L.setIfInBounds e l).size=aF.size:=N;have aH:c ((L.setIfInBounds e l).toList.filter (λy=>!y))<=E:=by have z:L.toList[e]?=f u:=Q1;grind[xR]
   have av:∀m U,aF[m]?=f U->(L.setIfInBounds e l).getD m u=l->∀g∈U.after,eS g=l->(L.setIfInBounds e l).getD g.on u=l:=wH;have aK:¬(L.setIfInBounds e l).getD last u=l:=wH
   have aC:bZ D k d (q e) i:=t.fg λb k d R O=>s.eU e w o ao b k d R (by
    unfold gH at O;cases h:idx b with
    |none=>grind
    |some m=>
     simp only[h]at O⊢;split
     .grind
     .trivial)
   have aL:∀r R,de k d k r->bv k r R (C e)->l8 D k r (gH F C idx (L.setIfInBounds e l)) (i.put w.dst R):=by
    intro r R K O;cases S:w.dst with
    |none=>
     refine⟨t.size,t.defers.imp λ_ z=>z.mono K.ext,λb=>?_⟩;have j:=(t.al b).mono K.ext v.len;simp only[Act.put];unfold gH at j⊢;cases h:idx b with
     |none=>grind
     |some m=>
      exact O'
    |some Y=>
     obtain⟨aG,aB⟩:=s.eV e w Y o S;refine⟨by simp[Act.put,t.size],t.defers.imp λ_ z=>z.mono K.ext,λb=>?_⟩;simp only[Act.put];by_cases g:Y=b
     .subst g;have aM:Y<i.tmps.size:=by rw[t.size];exact aB
      simp only[hu,uC aM,h5];unfold gH;simp only[aG];rw[bo ((mx x).2 (.inl a))];exact O
     have j:=(t.al b).mono K.ext v.len;simp only[hu]at j⊢;rw[sA g];unfold gH at j⊢;cases h:idx b with
     |none=>grind
     |some m=>
      exact O'
   have:=s.ar e w o ao d i aC v y J ah W e (Region.linearise.go .any aF E (b / c (aQ .any aF L)) (L.setIfInBounds e l) []) A N;simp only[xa]at this;exact this λR r O aD K=>al _ aI aH aK av r _ (aL _ _ K O) (by cases w.dst<;>exact S) aD (M.trans K) _
theorem ur.region(B:ur p D aF F k C q idx last)(N:P.follows Departure.mixedOrders=l){A:ai->a5->Prop}{s:aJ}{i}(v:s.kind≠.early){cG}{wU}{id}(t:bZ D k cG F wU)(M:wU.defers=[])(y:bc k cG)(O:∀o j,j.tmps.size=D->(∀d,bv k o (j.tmps.getD d I) (match idx d with|some w=>if w=last then .any else C w|none=>look F d))->j.defers=[]->bc k o->de k cG k o->cd p A (G (s.N j (.inRegion aF [last]::i)) ah) o):
  cd p A (G (s.N wU (.code (.region id aF l)::i)) ah) cG:=by
 refine .next a λb h=>?_;have h:=p.bM h;have g:=y.rely h;have J:=t.rely h y;have x:cN k b k {b with a:={b.a with drawn:=b.a.drawn+1}}:=cN.same rfl rfl rfl rfl;have z:bc k {b with a:={b.a with drawn:=b.a.drawn+1}}:=g.same rfl;have K:=h.aH.trans (x.too1 g);refine⟨_,{b with a:={b.a with drawn:=b.a.drawn+1}},#[],Eo,⟨⟨k,k,g,z,x⟩,.nil⟩,?_⟩;simp[Region.schedule,N,Bool.true_or,dH];refine B.eP v (cG:=cG) O aF.size _ E E wC FN _ wU ?_ M z K _;have m:=J.mono (x.too1 g) g.len;refine⟨m.size,m.defers,λd=>?_⟩;unfold gH;cases Q:idx d with
 |none=>exact m.al d
 |some w=>
  simp only;rw[bl]
  .exact m.al d
  exact wC
end
def dA(q:af P)(x:Nat)(a:m ap)(t:ap)(w:bH)(j:m an)(z:ι->y)(e:ι->m an):Prop:=
 ∀i k,bZ x j i w k->bc j i->∀(o:aJ) s g (p:ai->a5->Prop) r b,o.kind≠.early->a.toArray[r]?=f t ->
  (∀h v d,bv (e h) d v (z h)->bc (e h) d->de j i (e h) d->cd q p (G (o.N (k.put t.dst v) (.inRegion a.toArray b::s)) g) d)->cd q p (G (o.N k (.inRegion a.toArray (r::b)::s)) g) i
def pP:m ap->Nat->(Nat->y)->m (Option Nat×y)
 |[],_,_=>[]
 |d::e,a,b=>(d.dst,b a)::pP e (a+1) b
def E7{g:Nat->y}:∀{e:m ap}{b a:Nat},(pP e b g)[a]?=(e[a]?).map λd=>(d.dst,g (b+a))
 |[],b,a=>by simp[pP]
 |d::h,b,0=>by simp[pP]
 |d::h,b,a+1=>by simp[pP,n3];rw[E7,show b+1+a=b+(a+1) by omega]
def dB(a:m ap)(b:bH)(g:Nat->y)(d:Nat):bH:=fV (λe=>eg e (c_ (a.getD d ew).after.toList)) 0 (pP a 0 g) (mK a b)
def nj(a:m ap)(b:bH)(d:Nat->y):bH:=fV (λ_=>l) 0 (pP a 0 d) (mK a b)
def oe(a:Nat):m ap->Bool
 |[]=>l
 |b::d=>match fp a b.dst with|true=>oe a d|false=>u
def IG{D}:∀{e:m ap},oe D e=l->∀(a:Nat)b,e[a]?=f b->fp D b.dst=l
 |[],_,a,b,d=>by grind
 |i::j,d,a,b,g=>by
  simp[oe]at d;split at d
  .rename_i h;cases a with
   |zero=>grind
   |succ a=>exact IG d a b N
  grind
def n5:m ap->Nat->Bool
 |[],_=>l
 |b::d,a=>match tf a (c_ b.after.toList)with|true=>n5 d (a+1)|false=>u
def GS:∀{i:m ap}{h:Nat},n5 i h=l->∀(a:Nat)d,i[a]?=f d->∀g∈c_ d.after.toList,g<h+a
 |[],_,_,a,d,e=>by grind
 |o::p,h,e,a,d,b=>by
  simp[n5]at e;split at e
  .rename_i j;cases a with
   |zero=>simp at b;subst b;exact Dx j
   |succ a=>intro g k;have:=GS e a d N g k;omega
  grind
def xg(pre:Nat->Bool):m Nat->Bool
 |[]=>u
 |a::b=>match pre a with|true=>xg pre b|false=>l
theorem GJ{pre:Nat->Bool}:∀{d:m Nat},xg pre d=l->∃b∈d,pre b=u
 |[],a=>by cases a
 |b::g,a=>by
  simp[xg]at a;split at a
  .obtain⟨q,e,i⟩:=GJ a;grind
  grind
def n'(pre:Nat->Bool)(b:Nat):m ap->Nat->Bool
 |[],_=>l
 |e::d,a=>match pre a with
  |true=>n' pre b d (a+1)
  |false=>match ad a b with
   |true=>n' pre b d (a+1)
   |false=>match xg pre (c_ e.after.toList)with|true=>n' pre b d (a+1)|false=>u
theorem H3{pre:Nat->Bool}{z}:∀{h:m ap}{d:Nat},n' pre z h d=l->∀(a:Nat)e,h[a]?=f e->pre (d+a)=u->d+a≠z->∃o∈c_ e.after.toList,pre o=u
 |[],_,_,a,e,g=>by grind
 |q::p,d,g,a,e,b=>by
  intro i j;simp[n']at g;cases a with
  |zero=>
   simp at b;subst b;simp[j8]at i j;grind[Nat.eq_of_beq_eq_true,GJ]
  |succ a=>
   have k:n' pre z p (d+1)=l:=N;exact H3 k a e N N x
section
variable {p:af P}{idx:Nat->Option Nat}
def YP{h:Nat->y}{j}(q:∀a k b g,bv k b g (match idx a with|some i=>(if ∃d∈r.after,eS d=l/\d.on=i then h i else .any)|none=>look F a)->bv k b g (look (dB aF.toList F h e) a))(p:l8 D k b (gH F h idx L) j)(s:∀d∈r.after,eS d=l->L.getD d.on u=l):bZ D k b (dB aF.toList F h e) j:=p.fg λa k b g m=>q a k b g (by
 unfold gH at m;cases o:idx a with
 |none=>grind
 |some i=>
  simp only[o]at m⊢;split
  .grind
  .trivial)
def adY{s p:Nat->y}{d}{o}(t:∀g,r.dst=f g->idx g=f e/\g<D)(N:∀g m,idx g=f m->∃r,aF[m]?=f r/\r.dst=f g)(A:aF[e]?=f r)(M:e<L.size)(O:∀m,L.getD m u=l->p m=s m)(w:c b.s=c k)(i:de k b d az)(j:l8 D k b (gH F s idx L) o)(K:bv d az aa (p e)):l8 D d az (gH F p idx (L.setIfInBounds e l)) (o.put r.dst aa):=by
 have old:∀h,idx h≠f e->bv d az (o.tmps.getD h I) (gH F p idx (L.setIfInBounds e l) h):=by intro h Q;have x:=(j.al h).mono i.ext w;unfold gH at x⊢;grind[mx]
 cases J:r.dst with
 |none=>
  refine⟨j.size,j.defers.imp λ_ q=>q.mono i.ext,λh=>?_⟩;refine old h λz=>?_;grind
 |some g=>
  obtain⟨B,E⟩:=t g J;refine⟨by simp[Act.put,j.size],j.defers.imp λ_ q=>q.mono i.ext,λh=>?_⟩;simp[Act.put];by_cases v:g=h
  .subst v;have C:g<o.tmps.size:=by rw[j.size];exact E
   simp[hu,uC C,h5];unfold gH;simp only[B];rw[bo ((mx M).2 (.inl a))];exact K
  have:=old h (λz=>by grind);simp[hu]at this⊢;grind
def Sf{Sx:∀a e,aF[a]?=f e->∀b∈e.after,eS b=l->b.on<a}(o:L.size=aF.size)(k:aQ .any aF L=[]):∀a,a<aF.size->L.getD a u=l:=by
 intro a;induction a using Nat.strongRecOn with
 |_ a g=>
  intro d;cases m:L.getD a u with
  |true=>rfl
  |false=>
   have i:a∈aQ .any aF L:=pr.2 ⟨aF[a],iE d,by grind,λb j h=>by grind⟩;grind
def Z9{o}(a:(aQ .any aF L)[o % c (aQ .any aF L)]?=n):aQ .any aF L=[]:=by
 cases d:aQ .any aF L with
 |nil=>rfl
 |cons e b=>
  grind[Nat.mod_lt]
theorem Sh(h:L.size=aF.size)(i:c (L.toList.filter (λb=>!b))<=0):∀a,a<aF.size->L.getD a u=l:=by
 intro a g;have d:L[a]'x∈L.toList:=E;cases e:L[a]'x with
 |true=>simp[hu,iE (by omega:a<L.size),e]
 |false=>
  have:L[a]'x∈L.toList.filter (λb=>!b):=jd.2 ⟨d,by grind⟩;grind
end
def ds(b:Nat)(y:Nat->Bool):Nat->Bool:=λa=>match ad a b with|true=>l|false=>y a
section
variable {p:af P}{B:Type}{C:B->Nat->y}{idx:Nat->Option Nat}{bq:B->(Nat->Bool)->m an}{fj:B->(Nat->Bool)->Prop}{q:Nat}
def kg(L:Array Bool):Nat->Bool:=λa=>L.getD a u
def Tp(a:e<L.size):kg (L.setIfInBounds e l)=ds e (kg L):=by funext t;have b:=mx (L:=L) (e:=e) (t:=t) a;simp[kg,ds];grind[Nat.eq_of_beq_eq_true,Nat.beq_refl]
def S4{q}(i:L.size=j)(h:∀e,q<=e->¬L.getD e u=l):j-q<=c (L.toList.filter (λa=>!a)):=by
 have k:(L.toList.drop q).filter (λa=>!a)=L.toList.drop q:=by rw[sj];intro a g;obtain⟨d,b,rfl⟩:=g6 g;have:=h (q+d) x;simp[sm,m8]at b;simp[hu,iE (by omega:q+d<L.size),h5]at this;grind
 grind[List.drop_sublist]
theorem nV.iR(all)(q):nV all (List.range' q (c all-q)) (all.drop q):=by
 have key:∀a j,(∀t r,a[t]?=f r->all[j+t]?=f r)->nV all (List.range' j (c a)) a:=by
  intro a;induction a with
  |nil=>intro j _;trivial
  |cons r b w=>
   exact QD
 have:=key (all.drop q) q λt r s=>by grind
 grind
structure um{P:aE}(p:af P)(D:Nat)(aF:Array ap)(F:bH){B:Type}(C:B->Nat->y)(bq:B->(Nat->Bool)->m an)(fj:B->(Nat->Bool)->Prop)(idx:Nat->Option Nat)(q:Nat):Prop where
 cO:∀e r,aF[e]?=f r->∀aj∈r.after,eS aj=l->aj.on<e
 eV:∀e r K,aF[e]?=f r->r.dst=f K->idx K=f e/\K<D
 dQ:∀K e,idx K=f e->∃r,aF[e]?=f r/\r.dst=f K
 ar:∀κ (y:Nat->Bool) e r,fj κ y->aF[e]?=f r->e<q->y e=u->(∀aj∈r.after,eS aj=l->y aj.on=l)->(∀t K3,aF[t]?=f K3->y t=l->∀aj∈K3.after,eS aj=l->y aj.on=l)->dA p D aF.toList r (dB aF.toList F (C κ) e) (bq κ y) (λbd:{RL:B // (∀t,y t=l->C RL t=C κ t)/\fj RL (ds e y)}=>C bd.1 e) (λbd=>bq bd.1 (ds e y))
 eU:∀(C:Nat->y) e r,aF[e]?=f r->∀o k b aa,bv k b aa (match idx o with|some t=>(if ∃aj∈r.after,eS aj=l/\aj.on=t then C t else .any)|none=>look F o)->bv k b aa (look (dB aF.toList F C e) o)
 fin:∀(C:Nat->y) o k b aa,bv k b aa (match idx o with|some t=>C t|none=>look F o)->bv k b aa (look (nj aF.toList F C) o)
 g1:∀e r,aF[e]?=f r->q<=e->∀L:Array Bool,(∀e r,aF[e]?=f r->L.getD e u=l->∀aj∈r.after,eS aj=l->L.getD aj.on u=l)->(∀aj∈r.after,eS aj=l->L.getD aj.on u=l)->∀h,h<e->L.getD h u=l
 gf:q<=aF.size
 ij:∀κ (y:Nat->Bool),fj κ y->(∀e,e<q->y e=l)->∀e,q<=e->e<aF.size->C κ e=.any
def JW(b:L.size=j)(a:e<j):L.getD e l=u↔¬L.getD e u=l:=N
theorem um.seq(s:um p D aF F C bq fj idx q):∀k a(L:Array Bool)y,L.size=aF.size->q<=a->a<=aF.size->aF.size-a<=k->(∀o,o<aF.size->(L.getD o u=l↔o<a)) ->
  Region.linearise.go .any aF k y L []=List.range' a (aF.size-a):=by
 intro k;induction k with
 |zero=>
  grind[Dt]
 |succ k V=>
  intro a L y B W X Y A;by_cases Q:a=aF.size
  .grind [Kz]
  .rw[vw];have v:a<aF.size:=x;have S:∀b j,aF[b]?=f j->L.getD b u=l->∀i∈j.after,eS i=l->L.getD i.on u=l:=λb j d h i w g=>by have m:=(jb.1 d).1;have e:=(A b m).1 h;have E:=s.cO b j d i w g;grind
   have T:∀b,b∈aQ .any aF L->b=a:=λb h=>by
    obtain⟨j,d,t,U⟩:=pr.1 h;have m:=(jb.1 d).1;have K:¬b<a:=λO=>(JW B m).1 t ((A b m).2 O);rcases dW a b with e|e
    .have:=s.g1 b j d x L S U a e;grind
    omega
   have R:a∈aQ .any aF L:=pr.2 ⟨aF[a],iE v,(JW B v).2 (λI=>by grind),λi w g=>by
    have:=s.cO a _ (iE v) i w g
    grind⟩
   have M:0<c (aQ .any aF L):=List.length_pos_of_mem R;have z:=p7 y M;rw[bF z];have r:=T _ (w7 z);simp[r];rw[V (a+1) _ _ N x x x (λo J=>by grind[mx])];rw[show aF.size-a=(aF.size-(a+1))+1 by omega,List.range'_succ]
def um.eP(m:um p D aF F C bq fj idx q){aM:ai->a5->Prop}{t:aJ}{w}(Y:t.kind≠.early){dN}{cG}(X:∀b y d h,fj b y->(∀e,e<q->y e=l)->bZ D (bq b y) d (nj aF.toList F (C b)) h->bc (bq b y) d->de dN cG (bq b y) d->cd p aM (G (t.N h (.inRegion aF (List.range' q (aF.size-q))::w)) ah) d):
  ∀s b L,fj b (kg L)->L.size=aF.size->c (L.toList.filter (λt=>!t))<=s->(∀o,q<=o->¬L.getD o u=l) ->
   (∀e z,aF[e]?=f z->L.getD e u=l->∀I∈z.after,eS I=l->L.getD I.on u=l) ->
   ∀d h,l8 D (bq b (kg L)) d (gH F (C b) idx L) h->bc (bq b (kg L)) d->de dN cG (bq b (kg L)) d ->
   ∀k,cd p aM (G (t.N h (.inRegion aF (Region.linearise.go .any aF s k L [])::w)) ah) d:=by
 have fin:∀b L d h s k,fj b (kg L)->L.size=aF.size->c (L.toList.filter (λt=>!t))<=s->(∀o,q<=o->¬L.getD o u=l)->(∀e,e<q->L.getD e u=l)->l8 D (bq b (kg L)) d (gH F (C b) idx L) h->bc (bq b (kg L)) d->de dN cG (bq b (kg L)) d->cd p aM (G (t.N h (.inRegion aF (Region.linearise.go .any aF s k L [])::w)) ah) d:=by
  intro b L d h s k A O R M aj E i r;have W:=m.gf;rw[m.seq s q L k O (bB _) W (by have aD:=S4 (j:=aF.size) (q:=q) O M;omega) (λo J=>⟨λal=>by grind,λal=>aj o al⟩)]
  exact X b _ d h A aj (E.fg λk ax d ar H=>m.fin (C b) k ax d ar (by
   unfold gH at H;cases v:idx k with
   |none=>grind
   |some o=>
    simp only[v]at H⊢;obtain⟨z,g,_⟩:=m.dQ _ _ v;rcases dW o q with B|B
    .grind
    .rw[m.ij b _ A aj o B (jb.1 g).1];trivial)) i r
 intro s;induction s with
 |zero=>
  intro b L A O R M V d h E i r k;have W:=m.gf;grind[Sh]
 |succ s ab=>
  intro b L A O R M V d h E i r k;have W:=m.gf;cases ae:(aQ .any aF L)[k % c (aQ .any aF L)]? with
  |none=>exact fin b L d h _ k A O R M (λe v=>Sf (Sx:=m.cO) O (Z9 ae) e x) E i r
  |some e=>
   have v:=b' ae;obtain⟨z,g,ao,ag⟩:=pr.1 v;have aq:e<aF.size:=(jb.1 g).1;rcases dW e q with Q|Q
   rotate_left
   .exact fin b L d h _ k A O R M (λo J=>m.g1 e z g Q L V ag o x) E i r
   rw[vw,ae];have av:¬L.getD e u=l:=N;have aG:c ((L.setIfInBounds e l).toList.filter (λt=>!t))<=s:=by
    have B:L.toList[e]?=f u:=by rw[Gv,iE (by omega:e<L.size)];simpa[hu,iE (by omega:e<L.size)]using av
    grind[xR]
   have au:∀S K,aF[S]?=f K->(L.setIfInBounds e l).getD S u=l->∀I∈K.after,eS I=l->(L.setIfInBounds e l).getD I.on u=l:=wH;have a:bZ D (bq b (kg L)) d (dB aF.toList F (C b) e) h:=YP (m.eU (C b) e z g) E ag;have:=m.ar b (kg L) e z A g Q (by unfold kg;grind) ag V d h a i t w ah aM e (Region.linearise.go .any aF s (k / c (aQ .any aF L)) (L.setIfInBounds e l) []) Y N;simp only[xa]at this;refine this λaE ar af H U T=>?_;obtain⟨aB,az,an⟩:=aE;have aw:=Tp (L:=L) (e:=e) x;simp only at H U T;rw[<-aw]at H U T an;exact ab aB _ an N aG (λo J=>by grind[mx]) au af _ (adY (λaC Z=>m.eV e z aC g Z) m.dQ g x (λS aa=>az S aa) i.len T E H) U (r.trans T) _
def b2.reg(aD:P.follows Departure.mixedOrders=l)(x:Nat)(t:B->Nat->y)(M:B->(Nat->Bool)->m an)(g:B->(Nat->Bool)->Prop)(ao:B)(aS:g ao λ_=>u)(aB:M ao (λ_=>u)=k)(aj:kN all=l)(a4:n5 all 0=l)(a5:oe D all=l)(a8:x<=c all)(R:∀e,x<=e->e<c all->∀L:Nat->Prop,(∀e,e<c all->L e->∀i∈c_ (all.getD e ew).after.toList,L i)->(∀i∈c_ (all.getD e ew).after.toList,L i)->∀K,K<e->L K)(C:∀j (y:Nat->Bool),g j y->(∀e,e<x->y e=l)->∀e,x<=e->e<c all->t j e=.any)(ae:∀j (y:Nat->Bool) e r,g j y->all[e]?=f r->e<x->y e=u->(∀i∈c_ r.after.toList,y i=l)->(∀h ab,all[h]?=f ab->y h=l->∀i∈c_ ab.after.toList,y i=l)->dA p D all r (dB all F (t j) e) (M j y) (λaJ:{aO:B // (∀h,y h=l->t aO h=t j h)/\g aO (ds e y)}=>t aJ.1 e) (λaJ=>M aJ.1 (ds e y))){aM:fB}(aC:∀j y,g j y->(∀e,e<x->y e=l)->fi p D all (all.drop x) (aM .normal) (nj all F (t j)) (M j y))(id:Nat):
  b2 p D (.region id all.toArray l) aM F k:=by
 have S:∀e:Nat,all.toArray[e]?=all[e]?:=λe=>by simp
 let idx:Nat->Option Nat:=λo=>(aA (c all)).find? (λe=>decide ((all.getD e ew).dst=f o));have ba:∀o h,idx o=f h->∃r,all[h]?=f r/\r.dst=f o:=N;have a0:∀e r I,all[e]?=f r->r.dst=f I->idx I=f e:=by
  intro e r I cz v;have bp:e<c all:=(cO.1 cz).1;cases aG:idx I with
  |none=>
   have:=uv.1 aG e N;grind
  |some h=>
   grind[DN]
 have bb:∀o,jO o all=l↔∃h,idx o=f h:=by grind[C',vi]
 have G:∀e r,all[e]?=f r->all.getD e ew=r:=λe r bd=>by grind
 have v:um p D all.toArray F t M g idx x:=by
  refine⟨?_,?_,?_,?_,?_,?_,λe r cz V L aT aU K aE=>?_,by grind,λj y av ar e q s=>C j y av ar e q N⟩
  .intro e r cz i ac A;rw[S]at cz;have:=GS a4 e r cz i.on (lY.2 ⟨i,by grind,A,rfl⟩);omega
  .intro e r I cz v;rw[S]at cz;exact⟨a0 e r I cz v,k_ (IG a5 e r cz) I v⟩
  .grind
  .intro j y e r av cz Z T aF aV;rw[S]at cz;exact ae j y e r av cz Z T (λi ac=>by grind[lY]) λh r J aR i ac=>by grind[lY]
  .intro t e r cz o k b aa ai;rw[S]at cz;show bv k b aa (look (dB all F t e) o);unfold dB;rw[G e r cz];rcases vz (z:=λh=>eg h (c_ r.after.toList)) (F:=mK all F) (o:=o) (d:=pP all 0 t) (e:=0)with⟨h,a',q,s,w⟩|w
   .rw[w];rw[E7]at q;cases J:all[h]? with
    |none=>grind
    |some aI=>
     simp[J,lC,e4,lD,cW]at q;rw[a0 h aI o J q.1]at ai;simp only at ai;rw[bo]at ai
     .grind
     simp[cW]at s;obtain⟨i,aP,aQ,x⟩:=lY.1 (qG s);grind
   rw[w,te];split
   .trivial
   grind
  .intro t o k b aa ai;show bv k b aa (look (nj all F t) o);unfold nj;rcases vz (z:=λ_=>l) (F:=mK all F) (o:=o) (d:=pP all 0 t) (e:=0)with⟨h,a',q,s,w⟩|w
   .rw[w];rw[E7]at q;grind
   rw[w,te];split
   .trivial
   grind
  rw[S]at cz;refine R e V (cO.1 cz).1 (λK=>L.getD K u=l) (λa_ aW a9 i ac=>?_) (λi ac=>?_) K aE
  .grind [lY]
  grind[lY]
 intro b aP a6 X aQ aH ax aq A U;refine .next a λQ ah=>?_;have ah:=p.bM ah;have ag:=X.rely ah;have H:=a6.rely ah X;have O:cN k Q k {Q with a:={Q.a with drawn:=Q.a.drawn+1}}:=cN.same rfl rfl rfl rfl;have Y:bc k {Q with a:={Q.a with drawn:=Q.a.drawn+1}}:=ag.same rfl;have a1:=ah.aH.trans (O.too1 ag);refine⟨_,{Q with a:={Q.a with drawn:=Q.a.drawn+1}},#[],Eo,⟨⟨k,k,ag,Y,O⟩,.nil⟩,?_⟩;simp only[Region.schedule,aD,Bool.true_or,dH];have W:kg (Array.replicate all.toArray.size u)=λ_=>u:=by funext e;simp[kg,hu,w_];split<;>simp
 refine v.eP A (dN:=k) (cG:=b) (λj y aL au av ar az s af=>?_) all.toArray.size ao _ N E E ?_ ?_ _ aP ?_ N N _
 .refine aC j y av ar aL au az s aQ aH ax aq _ A ?_ λa3 a2 aN aw aK f3 w a7=>U .normal _ _ aN aw aK f3 w (af.trans a7);grind[nV.iR]
 .intro e _ bp;simp[hu,w_]at bp;split at bp<;>simp at bp
 .exact FN
 rw[W,aB];have al:=H.mono (O.too1 ag) ag.len;refine⟨al.size,al.defers,λo=>?_⟩;unfold gH;cases aZ:idx o with
 |none=>exact al.al o
 |some h=>
  simp only;rw[bl]
  .exact al.al o
  exact wC
def dA.to{q:Type}{s:ι->y}{b:ι->m an}{t:q->y}{o:q->m an}(A:dA p D all r F k s b)(E:∀d,∃e,s d=t e/\b d=o e):dA p D all r F k t o:=by intro O w z i x e g v C a h j B;refine A O w z i x e g v C a h j λd S Q K M N=>?_;obtain⟨R,I,J⟩:=E d;grind
def aK.tocH{d:Type}{A}{B:d->y}{z:d->m an}(K:aK p D all r F k A aq)(q:d)(e:A=B q)(g:aq=z q):dA p D all r F k B z:=by subst e g;exactλN E J j I s b C M a i o h=>K N E J j I s b C M a i o λO x t v w=>h q O x t v w
end
section
variable {p:af P}
theorem dA.aZ{C:ι->y}{d:ι->m an}(Q:r.guard=n)(M:∀g h,bc k g->(∀E,bv k g (h E) (bE F E))->∃(e:ι)(b:a5)(j:Y),(ab h r).run P g.a=.ok (.value j) b.a/\bv (d e) b j (C e)/\bc (d e) b/\cN k g (d e) b/\dw g ((ab h r).events P g.a #[])):dA p D all r F k C d:=by intro g I K i S U J R T z w x v;refine ro w x (i5 Q) λO q=>?_;have o:=i.rely q;obtain⟨e,b,j,s,t,B,A,N⟩:=M O I.eval o (eQ (K.rely q i));exact⟨_,b,j,s,.inl a,⟨⟨k,d e,o,B,A⟩,N⟩,v e j b t B (q.aH.trans (A.too1 o))⟩
def dA.dg{j}(t:aK p D all r F k j aq):dA p D all r F k (λ_:Unit=>j) (λ_=>aq):=
 λx o s g q w b m v a e h d=>t x o s g q w b m v a e h λy i=>d () y i
def aK.aN{a}(d:a0 P r (bE F) k a aq)(b:r.guard=n):aK p D all r F k a aq:=.aZ (λ_ _ _ _=>i5 b) d
def aK.eval{d}(aV:b0 P ac)(a:a9 p CT)(e:hE ac CT bg all F k r=f (d,n,cj))(b:T cj):aK p D all r F k d k:=d_ aV a e b
def aK.x{C}(aV:b0 P ac:=by exact bb)(iT:a9 p CT:=by first|assumption|exact a9.nil)(s:hE ac CT [] all F k r=f (C,n,[]):=by rfl):aK p D all r F k C k:=d_ aV iT s v
def q5(i:af P)(h:Nat)(a:m ap)(g:bH)(d:m an)(e:Nat->y)(pre:Nat->Bool):m ap->Nat->Prop
 |[],_=>True
 |j::k,b=>(match pre b with|true=>aK i h a j (dB a g e b) d (e b) d|false=>True)/\q5 i h a g d e pre k (b+1)
def q6(i:af P)(h:Nat)(a:m ap)(g:bH)(d:m an)(e:Nat->y)(j:Nat):m ap->Nat->Prop
 |[],_=>True
 |k::o,b=>(match ad b j with|true=>True|false=>aK i h a k (dB a g e b) d (e b) d)/\q6 i h a g d e j o (b+1)
theorem q5.get{h:Nat->y}{pre:Nat->Bool}:∀{i:m ap}{d:Nat},q5 p D all F k h pre i d->∀(b:Nat)e,i[b]?=f e->pre (d+b)=l->aK p D all e (dB all F h (d+b)) k (h (d+b)) k
 |[],_,_,b,e,g=>by grind
 |o::q,d,g,0,e,a=>λw=>by simp at a;subst a;have j:=g.1;grind
 |o::q,d,g,b+1,e,a=>λw=>by have:=q5.get g.2 b e N N;grind
theorem q6.get{h:Nat->y}{z}:∀{i:m ap}{d:Nat},q6 p D all F k h z i d->∀(b:Nat)e,i[b]?=f e->d+b≠z->aK p D all e (dB all F h (d+b)) k (h (d+b)) k
 |[],_,_,b,e,g=>by grind
 |o::q,d,g,0,e,a=>λw=>by simp at a;subst a;have j:=g.1;simp only[j8]at w;grind[Nat.eq_of_beq_eq_true]
 |o::q,d,g,b+1,e,a=>λw=>by have:=q6.get g.2 b e N x;grind
def kL(pre:Nat->Bool)(d:Nat->y)(e:ι->Nat->y)(b:ι)(a:Nat):y:=match pre a with|true=>d a|false=>e b a
def DL{q}{pre:Nat->Bool}{o:Nat->y}{j:ι->Nat->y}{t:ι->m an}{bq:ι->(Nat->Bool)->m an}(R:pre z=u)(T:n' pre z all 0=l)(same:∀d b,pre b=l->j d b=o b)(C:∀b g,all[b]?=f g->pre b=l->aK p D all g (dB all F o b) k (o b) k)(qU:∀d (y:Nat->Bool) b g,all[b]?=f g->b≠z->b<q->y b=u->(∀e w,all[e]?=f w->y e=l->∀v∈c_ w.after.toList,y v=l)->aK p D all g (dB all F (j d) b) (bq d y) (j d b) (bq d (ds b y)))(B:∀g,all[z]?=f g->dA p D all g (dB all F o z) k (λd=>j d z) t)(Q:∀d (y:Nat->Bool),(∀b,y b=l->pre b=l)->t d=bq d (ds z y)):
  ∀i (y:Nat->Bool) b g,(i.isSome=y z/\(i=n->∀b,y b=l->pre b=l))->all[b]?=f g->b<q->y b=u->(∀v∈c_ g.after.toList,y v=l)->(∀d w,all[d]?=f w->y d=l->∀v∈c_ w.after.toList,y v=l) ->
   dA p D all g (dB all F (i.elim o j) b) (i.elim k λd=>bq d y) (λK:{E:Option ι // (∀d,y d=l->E.elim o j d=i.elim o j d)/\(E.isSome=ds b y z/\(E=n->∀e,ds b y e=l->pre e=l))}=>K.1.elim o j b) (λK=>K.1.elim k λd=>bq d (ds b y)):=by
 intro i y b g N s A x J r;have U:∀{e},ds b y e=l->e=b∨y e=l:=λ{e} h=>by unfold ds at h;grind[Nat.eq_of_beq_eq_true]
 have S:∀{e},e≠b->ds b y e=y e:=λ{e} h=>by unfold ds;grind[Nat.eq_of_beq_eq_true]
 by_cases M:b=z
 .subst M;cases i with
  |some d=>grind
  |none=>
   refine(B g s).to λd=>⟨⟨f d,λe h=>same d e (N.2 a e h),?_,λI=>by cases I⟩,a,Q d y (N.2 a)⟩
   unfold ds;grind[Nat.beq_refl]
 cases i with
 |none=>
  have O:pre b=l:=by grind[H3]
  exact(C b g s O).tocH ⟨n,λ_ _=>rfl,by grind,λ_ e h=>by grind⟩ a a
 |some d=>exact(qU d y b g s M A x r).tocH ⟨f d,λ_ _=>rfl,by grind,λI=>by cases I⟩ rfl rfl
def yS{q}{pre:Nat->Bool}{b:Option ι}{y:Nat->Bool}(h:b.isSome=y z/\(b=n->∀a,y a=l->pre a=l))(e:z<q)(g:∀a,a<q->y a=l):∃d,b=f d:=by
 cases b with
 |some d=>grind
 |none=>grind
def g.df(O:P.follows Departure.mixedOrders=l)(z)(pre:Nat->Bool)(r:Nat->y)(v:ι->Nat->y)(d:ι->m an){id}(A:kN aF.toList=l)(B:n5 aF.toList 0=l)(C:oe D aF.toList=l)(q:Nat.blt z (c aF.toList)=l)(E:pre z=u)(I:n' pre z aF.toList 0=l)(s:q5 p D aF.toList F k r pre aF.toList 0)(qU:∀b,q6 p D aF.toList F (d b) (kL pre r v b) z aF.toList 0)(aeM:dA p D aF.toList (aF.toList.getD z ew) (dB aF.toList F r z) k (λb=>kL pre r v b z) d)(M:∀b,g p D be av .normal (nj aF.toList F (kL pre r v b)) (d b)):g p D be (.code (.region id aF l)::av) .normal F k:=by
 have q:=fl q;have:=b2.reg (p:=p) (D:=D) (F:=F) (k:=k) O (all:=aF.toList) (c aF.toList) (λh:Option ι=>h.elim r (kL pre r v)) (λh _=>h.elim k d) (λh y=>h.isSome=y z/\(h=n->∀e,y e=l->pre e=l)) n ⟨rfl,λ_ _ J=>by cases J⟩ a A B C (bB _)
  (λe i j=>absurd j (n2.2 i)) (λh y _ _ e i j=>absurd j (n2.2 i))
  (DL (bq:=λb _=>d b) E I (λb e w=>by simp only[kL,w]) (λe t o w=>by have:=s.get e t o N;grind) (λb y e t o x _ _ _=>by have:=(qU b).get e t o N;grind)
   (λt K=>by grind) (λ_ _ _=>rfl))
  (aM:=g p D be av) (λh y Q R=>by obtain⟨b,rfl⟩:=yS Q q R;rw[su];exact .nil (M b)) id
 exact tW
end
section
variable {p:af P}
def wj(a:m ap)(b:Nat):m Nat->Bool
 |[]=>u
 |d::e=>match eg b (c_ (a.getD d ew).after.toList)with|true=>l|false=>wj a b e
def Ny{all}{e}:∀{h:m Nat},wj all e h=l->∃b,b∈h/\eg e (c_ (all.getD b ew).after.toList)=l
 |[],a=>by cases a
 |b::k,a=>by
  simp only[wj]at a;cases g:eg e (c_ (all.getD b ew).after.toList)with
  |true=>exact⟨b,by simp,g⟩
  |false=>
   simp only[g]at a;obtain⟨j,i,d⟩:=Ny a;exact⟨j,by simp[i],d⟩
def uF(a:m ap):Nat->m Nat->Bool
 |0,_=>l
 |d+1,b=>match eg d b with
  |true=>uF a d b
  |false=>match wj a d b with|true=>uF a d b|false=>u
def AZ{all}:∀{d:Nat}{e:m Nat},uF all d e=l->∀a,a<d->eg a e=l∨∃g,eg g e=l/\eg a (c_ (all.getD g ew).after.toList)=l
 |0,_,_,a,k=>by omega
 |d+1,e,b,a,k=>by
  simp[uF]at b;cases i:eg d e with
  |true=>
   simp[i]at b;by_cases j:a=d
   .subst j;exact .inl i
   exact AZ b a x
  |false=>
   simp[i]at b;cases h:wj all d e with
   |false=>simp[h]at b
   |true=>
    simp[h]at b;by_cases j:a=d
    .subst j;obtain⟨g,k1,o⟩:=Ny h;exact .inr ⟨g,vA k1,o⟩
    exact AZ b a x
def g.hO(G:P.follows Departure.mixedOrders=l)(z last)(pre:Nat->Bool)(r:Nat->y)(v:ι->Nat->y)(j h:ι->m an){id}(ab:kN aF.toList=l)(ae:n5 aF.toList 0=l)(ah:oe D aF.toList=l)(A:Nat.blt z (c aF.toList)=l)(al:pre z=u)(ar:n' pre z aF.toList 0=l)(aa:ad (last+1) (c aF.toList)=l)(V:uF aF.toList last (c_ (aF.toList.getD last ew).after.toList)=l)(ai:pre last=u)(au:ad last z=u)(J:q5 p D aF.toList F k r pre aF.toList 0)(qU:∀a,q6 p D aF.toList F (j a) (kL pre r v a) z aF.toList.dropLast 0)(t:dA p D aF.toList (aF.toList.getD z ew) (dB aF.toList F r z) k (λa=>kL pre r v a z) j)(I:∀a,aK p D aF.toList (aF.toList.getD last ew) (dB aF.toList F (kL pre r v a) last) (j a) (v a last) (h a))(q:∀a,g p D be av .normal (nj aF.toList F (kL pre r v a)) (h a)):g p D be (.code (.region id aF l)::av) .normal F k:=by
 have ag:=dn aa;have aw:last≠z:=by grind[Nat.beq_refl]
 have A:=fl A;have:=b2.reg (p:=p) (D:=D) (F:=F) (k:=k) G (all:=aF.toList) (c aF.toList) (λs:Option ι=>s.elim r (kL pre r v)) (λs y=>s.elim k λa=>match y last with|true=>h a|false=>j a) (λs y=>s.isSome=y z/\(s=n->∀e,y e=l->pre e=l)) n ⟨rfl,λ_ _ K=>by cases K⟩ rfl ab ae ah (bB _)
  (λe b i=>absurd i (n2.2 b)) (λs y _ _ e b i=>absurd i (n2.2 b))
  (DL (bq:=λa y=>match y last with|true=>h a|false=>j a) al ar (λa e Q=>by simp[kL,Q]) (λe B o Q=>by have:=J.get e B o (by rwa [cW]);rwa [cW]at this)
   (λa y e B o Y X E w=>by
    by_cases ao:e=last
    .subst ao;have b:=I a;rw[show aF.toList.getD e ew=B by simp[ak,o]]at b;simp[E,ds,sz];rw[show kL pre r v a e=v a e by simp[kL,ai]];exact b
    .have O:=(cO.1 o).1;have aj:aF.toList.dropLast[e]?=f B:=N;have b:=(qU a).get e B aj (by rwa [cW]);rw[cW]at b;have M:ad last e=u:=t_;have C:y last=u:=by
      cases C:y last with
      |false=>rfl
      |true=>
       have W:=bF (l:=aF.toList) (by omega:last<c aF.toList);have Z:∀q T,aF.toList[q]?=f T->aF.toList.getD q ew=T:=λq T K=>by simp[ak,K]
       rw[Z _ _ W]at V;rcases AZ V e x with i|⟨q,i,U⟩
       .grind [qG]
       have af:=w last _ W C q (qG i);cases aq:aF.toList[q]? with
       |none=>rw[show aF.toList.getD q ew=ew by simp[ak,aq]]at U;simp[ew,c_,eg]at U
       |some ok=>
        grind[qG]
     simp[ds,M,C];exact b)
   (λB R=>by rw[show aF.toList.getD z ew=B by simp[ak,R]]at t;exact t)
   (λa y S=>by
    have C:y last=u:=N
    simp[ds,au,C]))
  (aM:=g p D be av) (λs y H S=>by
   obtain⟨a,rfl⟩:=yS H A S;rw[su];simp[Option.elim,S last x]
   exact .nil (q a)) id
 exact tW
end
def ji(a:bC):Y:=.string ⟨a.toArray⟩
def SI{a}{b}(d:a.data.toList=b):Value.string a=ji b:=by subst d;simp[ji]
theorem EE{a}(d:Rd bA aa (.V a)):aa=ji a/\dU aa=l:=by
 cases d with
 |V b _=>exact⟨SI b,rfl⟩
section
variable {p:af P}{C:Nat->y}{bq:(Nat->Bool)->m an}
def nd:m ap->m (m Bool)->m (m Bool)
 |[],w=>w
 |r::ba,w=>d (lH w (c_ r.after.toList)) λq=>nd ba (w++[q])
 where d:m Bool->(m Bool->m (m Bool))->m (m Bool)
 |[],bd=>bd []
 |true::ba,bd=>d ba λba=>bd (l::ba)
 |false::ba,bd=>d ba λba=>bd (u::ba)
theorem yp:∀d(a:m Bool->m (m Bool)),nd.d d a=a d
 |[],a=>rfl
 |true::b,a=>by simp[nd.d];rw[yp b]
 |false::b,a=>by simp[nd.d];rw[yp b]
def H2{a:m ap}{y:Nat->Bool}(q:∀(b:Nat)d,a[b]?=f d->y b=l->∀h∈c_ d.after.toList,y h=l):
  ∀k e,(∀j,k[j]?=a[c e+j]?)->(∀(b:Nat) g,e[b]?=f g->∀d,a[b]?=f d->(∀h∈c_ d.after.toList,y h=l)->∀i,gy g i=l->y i=l) ->
   ∀(b:Nat) (g:m Bool),(nd k e)[b]?=f g->∀d,a[b]?=f d->(∀h∈c_ d.after.toList,y h=l)->∀i,gy g i=l->y i=l
 |[],e,_,p=>p
 |d::k,e,o,p=>by
  simp[nd];rw[yp];refine H2 q k _ (λj=>?_) ?_
  .have:=o (j+1);grind
  intro b g r;have s:=o 0;simp[mf,j8]at s;rcases Nat.lt_trichotomy b (c e) with v|rfl|t
  .grind
  .rw[hn (bB _)]at r;grind[B1]
  grind
def en(a:m ap)(d e:Nat):Bool:=match(nd a [])[d]? with|some b=>gy b e|none=>u
def Ba{y:Nat->Bool}(j:∀(a:Nat)b,all[a]?=f b->y a=l->∀g∈c_ b.after.toList,y g=l):∀d b,all[d]?=f b->(∀g∈c_ b.after.toList,y g=l)->∀a,en all d a=l->y a=l:=by
 intro d b h i a e;unfold en at e;split at e
 .rename_i q k;exact H2 j all [] E E d q k b h i a e
 grind
def GB{y:Nat->Bool}(k:∀(a:Nat)j,all[a]?=f j->y a=l->∀m∈c_ j.after.toList,y m=l)(p:y e=u):∀a,(a=e∨en all a e=l)->y a=u:=by
 intro a i;rcases i with rfl|i
 .exact p
 cases o:y a with
 |false=>rfl
 |true=>
  have b:∃d,all[a]?=f d:=by
   cases b:all[a]? with
   |some d=>grind
   |none=>
    exfalso;have q:c (nd all [])=c all:=by
     have:∀g h,c (nd g h)=c h+c g:=by
      intro g;induction g with
      |nil=>intro h;simp[nd]
      |cons j g r=>intro h;simp[nd];grind[yp]
     grind
    unfold en at i;grind
  obtain⟨d,b⟩:=b;have:=Ba k a d b (k a d b o) e i;grind
def b7(j:af P)(i:Nat)(a:m ap)(h:bH)(g:Nat->y)(e:(Nat->Bool)->m an)(b:Nat)(k:ap):Prop:=
 ∀y:Nat->Bool,(∀d,en a b d=l->y d=l)->(∀d,(d=b∨en a d b=l)->y d=u)->aK j i a k (dB a h g b) (e y) (g b) (e (ds b y))
def ub{P}(g:af P)(d:Nat)(a:m ap)(b:bH)(i:Nat->y)(e:(Nat->Bool)->m an):m ap->Nat->Prop
 |[],_=>True
 |j::k,h=>b7 g d a b i e h j/\ub g d a b i e k (h+1)
theorem ub.get{all}:∀{h:m ap}{g:Nat},ub p D all F C bq h g->∀d b,h[d]?=f b->b7 p D all F C bq (g+d) b
 |[],_,_,d,b,e=>by grind
 |i::j,g,e,0,b,a=>by simp at a;subst a;exact e.1
 |i::j,g,e,d+1,b,a=>by have:=ub.get e.2 d b N;grind
def g.cm{id}(B:P.follows Departure.mixedOrders=l)(o:Nat->y)(j:(Nat->Bool)->m an)(C:j (λ_=>u)=k)(t:kN aF.toList=l)(w:n5 aF.toList 0=l)(x:oe D aF.toList=l)(i:ub p D aF.toList F o j aF.toList 0)(E:∀y,(∀e,e<c aF.toList->y e=l)->g p D be av .normal (nj aF.toList F o) (j y)):g p D be (.code (.region id aF l)::av) .normal F k:=by
 have:=b2.reg (p:=p) (D:=D) (F:=F) (k:=k) B (all:=aF.toList) (c aF.toList) (λ_:Unit=>o) (λ_=>j) (λ_ _=>True) () v C t w x (bB _)
  (λe b d=>absurd d (n2.2 b)) (λr y _ _ e b d=>absurd d (n2.2 b))
  (λr y e s _ h _ A z q=>by have b:=i.get e s h;rw[cW]at b;exact(b y (Ba q e s h z) (GB q A)).tocH ⟨(),λ_ _=>rfl,v⟩ a a)
  (aM:=g p D be av) (λr y _ I=>by rw[su];exact .nil (E y I)) id
 exact tW
end
section
variable {p:af P}{C:Nat->y}{i:Bool->Bool->Bool->m an}{f1 f2 f3:Nat}
abbrev lf(e:Bool->Bool->Bool->m an)(a b d:Nat):(Nat->Bool)->m an:=λy=>e (y a) (y b) (y d)
def mT{y:Nat->Bool}(a:ad t e=u):ds e y t=y t:=by simp only[ds,a]
def zM{y:Nat->Bool}:ds e y e=l:=Aa
def b7.bF(a:ad f1 e=u)(b:ad f2 e=u)(j:ad f3 e=u)(k:∀d g h,aK p D all r (dB all F C e) (i d g h) (C e) (i d g h)):b7 p D all F C (lf i f1 f2 f3) e r:=by intro y _ _;show aK p D all r _ (i (y f1) (y f2) (y f3)) _ (i (ds e y f1) (ds e y f2) (ds e y f3));rw[mT a,mT b,mT j];exact k _ _ _
def b7.dv(aV:b0 P ac:=by exact bb)(iT:a9 p CT:=by first|assumption|exact a9.nil)(s:∀w q K,hE ac CT [] all (dB all F C e) (i w q K) r=f (C e,n,cj):=by intro w q K;cases w<;>cases q<;>cases K<;>rfl)(cQ:ad f1 e=u:=by rfl)(dr:ad f2 e=u:=by rfl)(aj:ad f3 e=u:=by rfl)(cz:T cj:=by simp only[T,a_];omega):b7 p D all F C (lf i f1 f2 f3) e r:=.bF cQ dr aj λw q K=>aK.eval aV iT (s w q K) cz
def b7.ax(aV:b0 P ac:=by exact bb)(iT:a9 p CT:=by first|assumption|exact a9.nil)(s:∀w q K,hE ac CT [] all (dB all F C e) (i w q K) r=f (C e,n,[]):=by intro w q K;cases w<;>cases q<;>cases K<;>rfl)(cQ:ad f1 e=u:=by rfl)(dr:ad f2 e=u:=by rfl)(aj:ad f3 e=u:=by rfl):b7 p D all F C (lf i f1 f2 f3) e r:=.dv (cj:=[]) aV iT s cQ dr aj v
def b7.ee(d:ad f1 e=l)(q:ad f1 e=l)(b:ad f2 e=u)(j:ad f3 e=u)(o:∀g h,aK p D all r (dB all F C e) (i u g h) (C e) (i l g h)):b7 p D all F C (lf i f1 f2 f3) e r:=by intro y _ m;have k:=dn d;subst k;show aK p D all r _ (i (y f1) (y f2) (y f3)) _ (i (ds f1 y f1) (ds f1 y f2) (ds f1 y f3));rw[zM,mT b,mT j,m f1 (.inl a)];exact o _ _
def b7.ef(g:ad f2 e=l)(b:ad f1 e=u)(m:ad f3 e=u)(d:en all f3 e=l)(q:ad f2 e=l)(o:∀h,aK p D all r (dB all F C e) (i h u u) (C e) (i h l u)):b7 p D all F C (lf i f1 f2 f3) e r:=by intro y _ j;have k:=dn g;subst k;show aK p D all r _ (i (y f1) (y f2) (y f3)) _ (i (ds f2 y f1) (ds f2 y f2) (ds f2 y f3));rw[zM,mT b,mT m,j f2 (.inl a),j f3 (.inr d)];exact o _
def b7.eg(j:ad f3 e=l)(b:ad f1 e=u)(d:ad f2 e=u)(h:en all e f2=l)(q:ad f3 e=l)(o:∀k,aK p D all r (dB all F C e) (i k l u) (C e) (i k l l)):b7 p D all F C (lf i f1 f2 f3) e r:=by intro y aV g;have m:=dn j;subst m;show aK p D all r _ (i (y f1) (y f2) (y f3)) _ (i (ds f3 y f1) (ds f3 y f2) (ds f3 y f3));rw[zM,mT b,mT d,g f3 (.inl a),aV f2 h];exact o _
end
def xh(a:Nat->Bool):m Nat->Bool
 |[]=>u
 |b::d=>match a b with|true=>l|false=>xh a d
def GK{e:Nat->Bool}:∀{d:m Nat},xh e d=l->∃b∈d,e b=l
 |[],a=>by cases a
 |b::j,a=>by
  simp[xh]at a;split at a
  .grind
  obtain⟨i,g,h⟩:=GK a;grind
def vU(a:m ap)(d:Nat):Nat->m Nat->Bool
 |0,b=>eg d b
 |g+1,b=>match eg d b with|true=>l|false=>xh (λe=>vU a d g (c_ (a.getD e ew).after.toList)) b
def za{all}{h}{L:Nat->Prop}(i:∀j,j<c all->L j->∀a∈c_ (all.getD j ew).after.toList,L a):∀{k:Nat}{d:m Nat},vU all h k d=l->(∀a∈d,L a)->L h
 |0,d,b,e=>e h (qG b)
 |k+1,d,b,e=>by
  simp only[vU]at b;split at b
  .grind [qG]
  obtain⟨a,q,g⟩:=GK b;rcases dW a (c all) with o|o
  .exact za i g (i a o (e a q))
  have:all.getD a ew=ew:=N;rw[this]at g;exact za i g (λr p=>by simp[ew,c_]at p)
def uI(a:m ap)(b:Nat)(d:m Nat):Nat->Bool
 |0=>l
 |e+1=>match vU a e b d with|true=>uI a b d e|false=>u
def Bb{all}{h}{d}:∀{b:Nat},uI all h d b=l->∀a,a<b->vU all a h d=l
 |0,_,a,g=>by omega
 |b+1,e,a,g=>by
  simp[uI]at e;split at e
  .rename_i i;by_cases j:a=b
   .grind
   exact Bb e a x
  grind
def u0(a:m ap)(d:Nat):Nat->Nat->Bool
 |_,0=>l
 |b,e+1=>match uI a d (c_ (a.getD b ew).after.toList) b with|true=>u0 a d (b+1) e|false=>u
def Cc{all}{g}:∀{b e:Nat},u0 all g b e=l->∀a,b<=a->a<b+e->uI all g (c_ (all.getD a ew).after.toList) a=l
 |b,0,_,a,h,i=>by omega
 |b,e+1,d,a,h,i=>by
  simp[u0]at d;split at d
  .rename_i q;by_cases j:a=b
   .grind
   exact Cc d a x x
  grind
section
variable {p:af P}
def th(b:Nat)(pre:Nat->Bool)(e:Nat->y)(g:ι->Nat->y)(d:ι)(a:Nat):y:=match Nat.blt a b with|true=>kL pre e g d a|false=>.any
def g.eI(ae:P.follows Departure.mixedOrders=l)(z q U)(pre:Nat->Bool)(j:Nat->y)(A:ι->Nat->y)(e:ι->m an){id}(S:kN aF.toList=l)(T:n5 aF.toList 0=l)(V:oe D aF.toList=l)(Z:pre z=u)(ab:n' pre z aF.toList 0=l)(R:Nat.blt q (c aF.toList)=l)(h:Nat.blt z q=l)(Y:∀b,pre b=l->b<q)(o:u0 aF.toList U q (c aF.toList-q)=l)(w:q5 p D aF.toList F k j pre aF.toList 0)(qU:∀d,q6 p D aF.toList F (e d) (th q pre j A d) z (aF.toList.take q) 0)(Q:dA p D aF.toList (aF.toList.getD z ew) (dB aF.toList F j z) k (λd=>th q pre j A d z) e)(I:∀d,g p D be (.S aF.toList (aF.toList.drop q)::av) .normal (nj aF.toList F (th q pre j A d)) (e d)):g p D be (.code (.region id aF l)::av) .normal F k:=by
 have R:=fl R;have h:=fl h;have:=b2.reg (p:=p) (D:=D) (F:=F) (k:=k) ae (all:=aF.toList) q (λi:Option ι=>i.elim j (th q pre j A)) (λi _=>i.elim k e) (λi y=>i.isSome=y z/\(i=n->∀b,y b=l->pre b=l)) n ⟨rfl,λ_ _ W=>by cases W⟩ a S T V x
  (λb s B L af r I E=>za af (Bb (Cc o b s x) I E) r)
  (λi y J K b s B=>by
   obtain⟨d,rfl⟩:=yS J h K;have:Nat.blt b q=u:=by
    cases C:Nat.blt b q with
    |false=>rfl
    |true=>have:=fl C;omega
   simp[Option.elim,th,this])
  (DL (bq:=λd _=>e d) Z ab (λd b r=>by have:Nat.blt b q=l:=AJ (Y b r);simp[th,this,kL,r])
   (λb v t r=>by have:=w.get b v t N;grind)
   (λd y b v t O M _ _=>by
    have aa:(aF.toList.take q)[b]?=f v:=N
    have:=(qU d).get b v aa N;grind)
   (λv X=>by grind) (λ_ _ _=>rfl))
  (aM:=g p D be av) (λi y J K=>by obtain⟨d,rfl⟩:=yS J h K;exact I d) id
 exact tW
end
def ec(b:Nat)(e:ao)(h:Y):Y->(Nat->Option Obj)->Prop:=λg a=>g=.pointer (f ⟨b,0,n⟩)/\a b=f (.cells #[h] e (0,0))/\∀d,d≠b->a d=n
section
variable {p:af P}
def aK.gr(aV:b0 P ac){o B}(d){e}(an:oO all F r=l)(w:r.op=.load o (.global B))(J:c' d k=f (.E (ec B W aa)))(s:b1 ac o=f e)(ae:dU aa=l)(S:hk e [.c (.val aa)]=f (.ar (.c (.val aa)))):
  aK p D all r F k (ax (.val aa)) k:=by
 intro b T ag I i av ah au aw M E K C;refine ro E K (jY an _ _ _ ag) λh Y=>?_;have m:=I.rely Y;have aI:=er J;have ao:d<c h.s:=by rw[m.len];grind
 have x:=bF ao;generalize h.s[d]=L at x;obtain⟨af,⟨ai,z,aq⟩,H,Z,ar⟩:=m.box d _ L aI x;have y:=H B _ z;have G:B∈L.ab:=(Z B).2 N
 have X:T.eval (.global B)=.pointer (f ⟨B,0,n⟩):=rfl;have O:bM k h [aa] [.c (.val aa)]:=⟨Rd.val ae,v⟩;obtain⟨R,V,Q⟩:=tw (b:=h) (k:=k) (P:=P) (aV o e s) (i:=B) (off:=0) (A:=[aa]) (ah:=[.c (.val aa)]) (aj:=.ar (.c (.val aa))) (λU az t=>by
  simp only[aL,y]
  grind) O S
 refine⟨.value R,h,R,by simp[ab,w,X,Instr.loadAt,Instr.sureAddr,V],.inl a,⟨⟨k,k,m,m,.refl _ _⟩,?_⟩,C R h Q m Y.aH⟩;intro q g;have al:q∈(loadVar o ⟨B,0,n⟩).events P h.a #[]:=by
  have aj:ab T.eval r=(do pure (.value (<-loadVar o ⟨B,0,n⟩))):=by simp[ab,w,X,Instr.loadAt,Instr.sureAddr]
  rw[aj]at g;simpa[V]using g
 obtain⟨U,t,rfl⟩:=pa (aV o e s) (j:=1) (λU t=>⟨aa,by simp only[aL,y];grind⟩) (by have:=r7 S;grind) q al;exact qn (b' x) G
end
section
variable {p:af P}
def ud{P}(i:af P)(h:Nat)(a:m ap)(g:bH)(b:m an)(e:Nat->y):m y->m ap->Nat->Prop
 |_::o,k::j,d=>aK i h a k (dB a g e d) b (e d) b/\ud i h a g b e o j (d+1)
 |[],_,_=>True
 |_::_,[],_=>False
theorem ud.get{all}{o:Nat->y}:∀{i:m y}{j:m ap}{h:Nat},ud p D all F k o i j h->∀a e,j[a]?=f e->a<c i->aK p D all e (dB all F o (h+a)) k (o (h+a)) k
 |[],_,_,_,a,e,_,b=>absurd b (iG _)
 |_::i,[],_,g,a,e,_,b=>g.elim
 |q::i,r::j,h,g,0,e,d,_=>by cases d;exact g.1
 |q::i,r::j,h,g,a+1,e,d,b=>by have:=ud.get g.2 a e d N;grind
def g.gg(C:P.follows Departure.mixedOrders=l)(ag)(q){id}(w:kN aF.toList=l)(z:n5 aF.toList 0=l)(A:oe D aF.toList=l)(i:ay (c ag) (c aF.toList)=l)(e:u0 aF.toList q (c ag) (c aF.toList-c ag)=l)(h:ud p D aF.toList F k (λd=>ag.getD d .any) ag aF.toList 0)(s:g p D be (.S aF.toList (aF.toList.drop (c ag))::av) .normal (nj aF.toList F λd=>ag.getD d .any) k):g p D be (.code (.region id aF l)::av) .normal F k:=by
 have i:=fl i;have:=b2.reg (p:=p) (D:=D) (F:=F) (k:=k) C (all:=aF.toList) (c ag) (λ_:Unit=>λd=>ag.getD d .any) (λ_ _=>k) (λ_ _=>True) () v a w z A i
  (λd b j L E B s o=>za E (Bb (Cc e d b x) s o) B)
  (λt y _ _ d b j=>by grind)
  (λt y d I _ r m _ _ _=>by have b:=h.get d I r m;rw[cW]at b;exact b.tocH ⟨(),λ_ _=>rfl,v⟩ a a)
  (aM:=g p D be av) (λt y _ _=>s) id
 exact tW
end
section
variable {p:af P}
def pY{e:Type}(w:af P)(v:Nat)(k:fB)(t:m il)(s:e->Prop)(r:e->bH)(p:e->m an)(q:e->Nat)(x:Nat)(y:e):fB:=λo d h=>match o with
 |.normal=>∃i j,x<=j/\s i/\q i<q y/\iA d (r i)/\qA j (r i)=l/\∃a b,h=a++b/\c a=j/\(ki j a=l/\jQ b=l)/\q9 a (p i)
 |o=>g w v k t o d h
def g.hD{I:Type}(Y:Nat)(C:I->Prop)(e:I->bH)(b_:I->m an)(W:I->Nat)(h){cS}(y:iW F (e h)=f Z)(aw:T Z)(aH:jp k (b_ h)=f cS)(ar:T cS)(aE:c k=Y)(H:C h)(round:∀h,C h->g p D (pY p D be av C e b_ W Y h) [.code q] .normal (e h) (b_ h)):g p D be (.code (.loop q)::av) .normal F k:=by
 intro ai w ax v i V S J b U;have t:=jP aH ar;obtain⟨aO,O,_⟩:=t ai v;refine xj (λag d az=>∃bI,C bI/\bZ D (b_ bI) az (e bI) d/\bc (b_ bI) az/\de k ai (b_ bI) az/\W bI=ag) ?_ ?_ ⟨h,H,(ax.le (eJ y aw)).ab t v,aO,O.too1 v,a⟩
 .rintro j d az ⟨bI,M,Q,B,K,aj⟩;exact OI
 rintro ag d az ⟨bI,M,Q,B,K,rfl⟩ aC;refine round bI M az d Q B i (.inLoop q::V) S J b ?_;intro aj aP ao z R ah A s o;cases aj with
 |normal=>
  obtain⟨al,aI,af,au,aG,aF,aQ,r,X,rfl,ae,⟨G,aq⟩,aK⟩:=ah;have aa:=s.drop N;obtain⟨aN,ab,aJ⟩:=aK _ aa;have f3:=A.le aF;have aB:e3 z (z.cut (c r)):=⟨rfl,λ_ _ _ aD=>aD,λ_ _ _=>rfl,s.mem,λi b=>b.imp id λ⟨L,aM,b⟩=>⟨L,g0 aM,b⟩⟩
  refine .aS aB (aC R (z.cut (c r)) (W al) aG ⟨al,au,⟨f3.size,f3.defers.imp λ_ cQ=>(cQ.drop aq).mono ab.ext,λaL=>aJ _ _ ((f3.al aL).drop (vm N))⟩,aN,?_,a⟩);exact((K.trans o).drop x).trans (ab.too1 aa)
 |_=>exact kG.cons (λ_ _=>rfl) E (U _ _ _ _ _ ah A s (K.trans o))
def g.fs{e:Type}{r}{o:e->Prop}{a:e->bH}{d:e->m an}{q:e->Nat}{s}{t}(j)(b){cS}(h:r<=j)(y:iW F (a b)=f Z)(A:T Z)(v:qA j (a b)=l)(w:vF j k=l)(i:jp (k.take j) (d b)=f cS)(B:T cS)(z:ki j (k.take j)=l)(C:o b)(x:q b<q s):
  g p D (pY p D be t o a d q r s) [] .normal F k:=
 ⟨b,j,h,C,x,eJ y A,v,k.take j,k.drop j,(uA j k).symm,by grind[Nat.le_of_ble_eq_true,yU],⟨z,(yU w).2⟩,jP i B⟩
def g.fE{s:Type}{q}{j:s->Prop}{e:s->bH}{h:s->m an}{o:s->Nat}{r}{id}{x i y}(t:iR id x=n)(v:iR id i=f y)(z:g p D be y .normal F k):
  g p D (pY p D be i j e h o q r) (.code (.exit id)::x) .normal F k:=
 b2.mono (g.bs (Q:=λa b=>pY p D be i j e h o q r .normal a b) t v z) λd a b A=>by
  have key:∀w d,g p D (λd a b=>match d with
    |.normal=>pY p D be i j e h o q r .normal a b
    |d=>g p D be i d a b) w d a b->g p D (pY p D be i j e h o q r) w d a b:=by
   have d:(λd a b=>match d with
    |.normal=>pY p D be i j e h o q r .normal a b
    |d=>g p D be i d a b)=pY p D be i j e h o q r:=by funext d a b;cases d<;>rfl
   grind
  exact key _ _ A
end
def da(d:bH)(a:m Nat):bH:=a.map λb=>(b,look d b)
section
variable {p:af P}
def g.dF{h:Type}(j)(aT)(e:h->Prop)(b:h->bH)(d:h->m an)(r:h->Nat)(a){cS}(i:iW F (da F aT++b a)=f Z)(s:T Z)(w:jp k (d a)=f cS)(v:T cS)(o:c k=j)(x:e a)(round:∀a,e a->g p D (mc p D be av e (λa=>da F aT++b a) d r j a) [.code q] .normal (da F aT++b a) (d a)):g p D be (.code (.loop q)::av) .normal F k:=
 .aL j e (λa=>da F aT++b a) d r a i s w v o x round
end
section
variable {p:af P}{C:Nat->y}{aj:Bool->Bool->Bool->Bool->m an}{f1 f2 f3 f4:Nat}
abbrev mv(g:Bool->Bool->Bool->Bool->m an)(a b d e:Nat):(Nat->Bool)->m an:=λy=>g (y a) (y b) (y d) (y e)
theorem nJ{y:Nat->Bool}(a:ad t e=u):ds e y t=y t:=by simp only[ds,a]
theorem wi{y:Nat->Bool}:ds e y e=l:=Aa
def b7.jT(h:ad f1 e=u)(i:ad f2 e=u)(k:ad f3 e=u)(j:ad f4 e=u)(m:∀a b d g,aK p D all r (dB all F C e) (aj a b d g) (C e) (aj a b d g)):b7 p D all F C (mv aj f1 f2 f3 f4) e r:=by intro y _ _;grind[nJ]
def b7.jU(aV:b0 P ac)(iT:a9 p CT)(cz:T cj)(s:∀w i q K,hE ac CT [] all (dB all F C e) (aj w i q K) r=f (C e,n,cj):=by intro w i q K;cases w<;>cases i<;>cases q<;>cases K<;>rfl)(cQ:ad f1 e=u:=by rfl)(dr:ad f2 e=u:=by rfl)(B:ad f3 e=u:=by rfl)(al:ad f4 e=u:=by rfl):b7 p D all F C (mv aj f1 f2 f3 f4) e r:=.jT cQ dr B al λw i q K=>aK.eval aV iT (s w i q K) cz
def b7.aO(aV:b0 P ac:=by exact bb)(iT:a9 p CT:=by first|assumption|exact a9.nil)(s:∀w i q K,hE ac CT [] all (dB all F C e) (aj w i q K) r=f (C e,n,[]):=by intro w i q K;cases w<;>cases i<;>cases q<;>cases K<;>rfl)(cQ:ad f1 e=u:=by rfl)(dr:ad f2 e=u:=by rfl)(B:ad f3 e=u:=by rfl)(al:ad f4 e=u:=by rfl):b7 p D all F C (mv aj f1 f2 f3 f4) e r:=.jU (cj:=[]) aV iT v s cQ dr B al
def b7.ec(a:ad f2 f1=u)(g:ad f3 f1=u)(b:ad f4 f1=u)(e:en all f2 f1=l)(h:en all f3 f1=l)(d:en all f4 f1=l)(i:aK p D all r (dB all F C f1) (aj u u u u) (C f1) (aj l u u u)):b7 p D all F C (mv aj f1 f2 f3 f4) f1 r:=z'
def b7.eS(a:ad f1 f2=u)(g:ad f3 f2=u)(d:ad f4 f2=u)(b:en all f2 f1=l)(h:en all f3 f2=l)(e:en all f4 f2=l)(i:aK p D all r (dB all F C f2) (aj l u u u) (C f2) (aj l l u u)):b7 p D all F C (mv aj f1 f2 f3 f4) f2 r:=z'
def b7.eT(a:ad f1 f3=u)(b:ad f2 f3=u)(g:ad f4 f3=u)(h:en all f3 f1=l)(e:en all f3 f2=l)(d:en all f4 f3=l)(i:aK p D all r (dB all F C f3) (aj l l u u) (C f3) (aj l l l u)):b7 p D all F C (mv aj f1 f2 f3 f4) f3 r:=z'
def b7.eW(a:ad f1 f4=u)(b:ad f2 f4=u)(g:ad f3 f4=u)(h:en all f4 f1=l)(e:en all f4 f2=l)(d:en all f4 f3=l)(i:aK p D all r (dB all F C f4) (aj l l l u) (C f4) (aj l l l l)):b7 p D all F C (mv aj f1 f2 f3 f4) f4 r:=z'
end
section
variable {ac:m (Nat×cq)}
def a0.j_(aV:b0 P ac){T M V X:ae}(af:r.op=.slice o T (f M) (f V) (f X)){G a4}(ah:b1 ac o=f G)(L:G.desc=.slice W)(ai:b1 ac W=f a4){eO}{p d m}{e t z}(an:∀ag q,bv k ag q (η T)->Rd ag.u q (.R eO a4.size j U))(aj:η M=ax (.int p e))(al:η V=ax (.int d t))(aM:η X=ax (.int m z))(Z:0<=e)(aG:e<=t)(av:t<=z)(aw:z<=j):
  a0 P r η k (ax (.R u a4.size (t.toNat-e.toNat) (fF e.toNat U))) k:=by
 refine .aY λb F az B=>?_;have S:=an b _ (B T);have get:∀h R q,η h=ax (.int R q)->F h=.int R q:=λh R q y=>by have s:=B h;rw[y]at s;replace s:=b8 s;generalize F h=aC at s;cases s;rfl
 have Q:=get M p e aj;have O:=get V d t al;have Y:=get X m z aM;obtain⟨aa,g,A,H,aE,aF,aH,a,aB⟩:=S.bY;rw[H]at S;have J:=(aV o G ah).run_underlying (M:=b.a);rw[L]at J;have em:((z.toNat:Nat):Int)=z:=rh x;have ar:((t.toNat:Nat):Int)=t:=rh x;have v:(aW l j g (f (.int p e)) (f (.int d t)) (f (.int m z))).run P b.a=.ok (e.toNat,t.toNat,z.toNat) b.a:=by simp[aW,run_sliceBound (P:=P) b.a m z g _ x x,run_sliceBound (P:=P) b.a d t z.toNat _ x x,run_sliceBound (P:=P) b.a p e t.toNat _ Z x]
 have ao:(aW l j g (f (.int p e)) (f (.int d t)) (f (.int m z))).events P b.a #[]=#[]:=by simp[aW,run_sliceBound (P:=P) b.a m z g _ x x,run_sliceBound (P:=P) b.a d t z.toNat _ x x,lb (P:=P) b.a m z g _ x x,lb (P:=P) b.a d t z.toNat _ x x,lb (P:=P) b.a p e t.toNat _ Z x]
 refine⟨.slice (if z.toNat=e.toNat then aa else aa.map (·.add (e.toNat*a4.size))) (t.toNat-e.toNat) (z.toNat-e.toNat),?_,?_,by simp[ab,af,H,Q,O,Y,Instr.sliceAt,J,Instr.slice,v,ao]⟩
 .simp[ab,af,H,Q,O,Y,Instr.sliceAt,J,Instr.slice,v,(aV W a4 ai).a_]
 cases S with
 |R aq D au _ _ _ N K w C=>
  refine Rd.R aq (D+e.toNat*a4.size) (λh t=>au (e.toNat+h) t) x x E (λh y=>N _ x) (λaD=>?_) (λh y t I i=>?_) (λh y t I i=>C _ x t I i)
  .rw[bl x,K x];simp[g2]
  have:=w (e.toNat+h) x t I i;grind
end
def i_(i:Y)(k:m Int):Y->(Nat->Option Obj)->Prop:=λo e=>o=i/\∃j a h,i=.map (f j)/\(∀g,e g=if g=j then f (.map a h)else n)/\MapKept.Stamped a h /\
 (∀d∈a.toList,∃b,d.key=.int .i64 b/\d.val=.bool l/\a8 .i64 b)/\∀b,b∈k↔∃d∈a.toList,d.key=.int .i64 b
structure R2(k:m an)(b:a5)(i:Nat)(al:Y)(d:m Int)(L:Loc)(ba:Nat)(U:Array MapEntry)(q:Nat):Prop where
 bS:b.s[i]?=f L
 v:L.v=al
 b5:al=.map (f ba)
 a2:MapKept.Stamped U q
 cw:∀aj∈U.toList,∃j,aj.key=.int .i64 j/\aj.val=.bool l/\a8 .i64 j
 mem:∀j,j∈d↔∃aj∈U.toList,aj.key=.int .i64 j
 heap:b.a.heap[ba]?=f (.map U q)
 ab:∀i,i∈L.ab↔i=ba
def i_.open{al}{d}(bO:bc k b)(o:k[i]?=f (.E (i_ al d))):∃L g a h,R2 k b i al d L g a h:=by have e:i<c b.s:=h2;obtain⟨q,⟨j,g,a,h,m,w,r,t,p⟩,s,v,_⟩:=bO.box i _ _ o (bF e);exact⟨_,g,a,h,bF e,j,m,r,t,p,s g _ N,λi=>by grind⟩
section
variable {ac S bd:ao}{C bI eK:ae}{al:Y}{d:m Int}{j:Int}
def Kp{b:Array MapEntry}(g:∀a∈b.toList,∃d,a.key=.int .i64 d/\a.val=.bool l/\a8 .i64 d):∀a∈b.toList,MapKept.IsKey (.int .i64) a.key:=λa e=>by obtain⟨d,h,_⟩:=g a e;exact hy
def Ea{al}{a}(e:bv k b aa a)(d:a=cL al):aa=al:=by subst d;exact Rd.a' e
def LW{j}{a}(e:bv k b aa a)(d:a=ax (.int .i64 j)):aa=.int .i64 j/\a8 .i64 j:=by subst d;have:=b8 e;generalize aa=g at this;cases this;exact bu
def a0.jZ(w:r.op=.lookup ac C bI u)(aV:P.underlying ac=f (.map S bd))(e:P.underlying S=f (.int .i64))(T:∀J,(zeroValue bd).run P J=.ok (.bool u) J)(D:k[i]?=f (.E (i_ al d)))(R:η C=cL al)(y:η bI=ax (.int .i64 j)):a0 P r η k (ax (.bool (d.contains j))) k:=by
 refine a0.dx λo Y B q=>?_;obtain⟨L,s,z,aa,b⟩:=i_.open B D;have p:=(Ea (q C) R).trans b.b5;obtain⟨Q,G⟩:=LW (q bI) y;obtain⟨U,x⟩:=JR (K:=.int .i64) (h:=.int .i64 j) rfl (Kp b.cw);have A:h8 o ⟨.obj s,u,u⟩:=mu (b' b.bS) ((b.ab s).2 a);have key:∃g:Bool,(Instr.lookup ac (.map (f s)) (.int .i64 j) u).run P o.a=.ok (.bool g) o.a/\(Instr.lookup ac (.map (f s)) (.int .i64 j) u).events P o.a #[]=#[⟨.obj s,u,u⟩]/\g=d.contains j:=by
  cases U with
  |none=>
   obtain⟨m,t⟩:=KD (ok:=u) aV e b.heap x (λ_=>T o.a)
   exact⟨u,m,t,by
    symm;rw[<-p8,AP,b.mem]
    rintro⟨v,O,e⟩;exact x.c1 a v O e⟩
  |some F=>
   obtain⟨X,g⟩:=F;obtain⟨m,t⟩:=KD (ok:=u) (eK:=I) aV e b.heap x (λw=>by cases w);obtain⟨v,V,W,Z⟩:=x.gM X g rfl;have E:v∈z.toList:=N;obtain⟨_,_,H,_⟩:=b.cw v E;exact⟨l,m.trans (show Result.ok g o.a=_ by grind),t,by symm;rw[AP,b.mem];grind⟩
 obtain⟨g,m,t,M⟩:=key;refine⟨.bool g,?_,by rw[<-M];exact Rd.bool,?_⟩
 .simp only[ab,w,p,Q,cJ,m,c8,dZ]
 simp only[ab,w,p,Q,aD,m,t,aG,Sem.events_pure];exact .ar A
def a0.j2(ae:r.op=.mapUpdate ac C bI eK)(aV:P.underlying ac=f (.map S bd))(D:P.underlying S=f (.int .i64))(F:k[i]?=f (.E (i_ al d)))(aj:η C=cL al)(ai:η bI=ax (.int .i64 j))(ah:η eK=ax (.bool l)):a0 P r η k .any (k.set i (.E (i_ al (d++[j])))):=by
 intro p J B v;obtain⟨L,m,q,aa,e⟩:=i_.open B F;have z:=(Ea (v C) aj).trans e.b5;obtain⟨Z,aw⟩:=LW (v bI) ai;have Y:J eK=.bool l:=by have:=v eK;rw[ah]at this;have:=b8 this;generalize J eK=X at this;cases this;rfl
 obtain⟨ao,M⟩:=JR (K:=.int .i64) (h:=.int .i64 j) rfl (Kp e.cw);have x:∀X,h8 p ⟨.obj m,X,u⟩:=λX=>mu (b' e.bS) ((e.ab m).2 a);have G:=(jb.1 e.heap).1;have key:∃b o,(Instr.mapUpdate ac (.map (f m)) (.int .i64 j) (.bool l)).run P p.a=.ok () {p.a with heap:=p.a.heap.setIfInBounds m (.map b o)}/\(Instr.mapUpdate ac (.map (f m)) (.int .i64 j) (.bool l)).events P p.a #[]=#[⟨.obj m,u,u⟩,⟨.obj m,l,u⟩] /\
   MapKept.Stamped b o/\(∀g∈b.toList,∃j,g.key=.int .i64 j/\g.val=.bool l/\a8 .i64 j)/\∀R,R∈d++[j]↔∃g∈b.toList,g.key=.int .i64 R:=by
  cases ao with
  |none=>
   obtain⟨w,I⟩:=Nt (C:=.bool l) aV D e.heap M;refine⟨_,_,w,I,MapKept.stamped_push e.a2 (M.c1 a),λg Q=>?_,λR=>?_⟩
   .rw[Array.toList_push,fC]at Q;rcases Q with Q|Q
    .exact e.cw g Q
    grind
   rw[fC,e.mem,Array.toList_push];constructor
   .rintro(⟨g,t,A⟩|t)
    .grind
    simp_all
   grind
  |some W=>
   obtain⟨V,aq⟩:=W;obtain⟨g,t,A,av⟩:=M.gM V aq rfl;have U:g∈q.toList:=N;obtain⟨_,_,ag,_⟩:=e.cw g U;have ar:q.modify V (λg=>{key:=.int .i64 j,val:=.bool l,born:=g.born})=q:=by
    apply Array.ext_getElem?;intro af;rw[AQ];split
    .rename_i bp;subst bp;rw[t,<-A,<-ag];rfl
    simp
   obtain⟨w,I⟩:=Nt (C:=.bool l) aV D e.heap M;refine⟨q,aa,w.trans (show Result.ok () {p.a with heap:=p.a.heap.setIfInBounds m (.map (q.modify V λg=>{key:=.int .i64 j,val:=.bool l,born:=g.born}) aa)}=_ by grind),I,e.a2,e.cw,λR=>?_⟩;rw[fC,e.mem];constructor
   .rintro(y|y)
    .exact y
    grind
   grind
 obtain⟨b,o,w,I,an,H,aM⟩:=key;have O:=B.ca (j1:=i_ al (d++[j])) (ct:=L) (bj:={p.a with heap:=p.a.heap.setIfInBounds m (.map b o)}) F e.bS rfl E (λi _ s=>by show(p.a.heap.setIfInBounds m _)[i]?=_;rw[sA (by rintro rfl;exact s ((e.ab m).2 rfl))]) (λi s=>.inl s)
  ⟨λi=>if i=m then f (.map b o)else n,⟨e.v,m,b,o,e.b5,λ_=>rfl,an,H,aM⟩,λi au s=>by grind,λi=>by rw[e.ab];by_cases g:i=m<;>simp[g]⟩ a a a
 have T:p.s.set i L=p.s:=by
  apply p';intro af;by_cases g:i=af
  .subst g;rw[ip (cO.1 e.bS).1,e.bS]
  grind
 rw[T]at O;refine⟨.skip,_,?_,a,O.1,O.2,?_⟩
 .simp only[ab,ae,z,Z,Y,cJ,w,c8,dZ]
 simp only[ab,ae,z,Z,Y,aD,w,I,aG,Sem.events_pure];exact .fi (x _) (x _)
end
section
variable {p:af P}{ac:ao}
def g.h5(q:r.op=.makeMap ac n)(v:r.guard=n)(w:fp D r.dst=l)(x:∀j,g p D be (.S all br::av) .normal (gf r.dst (cL j) F) (k++[.E (i_ j [])])):g p D be (.S all (r::br)::av) .normal F k:=by
 refine g.cE (ι:=Y) (λj=>cL j) (λj=>k++[.E (i_ j [])]) v w (λb z E e=>?_) x;let bj:au:={b.a with heap:=b.a.heap.push (.map #[] 0)}
 have A:bj.heap[b.a.heap.size]?=f (.map #[] 0):=N;have B:bj.heap.size=b.a.heap.size+1:=N;obtain⟨t,s⟩:=e.cY (cf:=b.u) (bj:=bj) N (λh d=>by grind) (λ_ _ _=>rfl) (λh d r y i=>by have:=e.block i;omega) rfl rfl rfl;obtain⟨m,t2⟩:=t.bX s rfl e (bS:=.E (i_ (.map (f b.a.heap.size)) [])) (L:=⟨.map (f b.a.heap.size),[b.a.heap.size]⟩)
  ⟨λh=>if h=b.a.heap.size then f (.map #[] 0)else n,⟨rfl,_,#[],0,rfl,λ_=>rfl,MapKept.stamped_empty 0,λo I=>by grind,λC=>by simp⟩,λh r d=>by
   grind,λh=>by by_cases o:h=b.a.heap.size<;>simp[o],λh d r=>by
   simp at d;subst d;show b.u _ _=n;cases i:b.u b.a.heap.size r with
   |none=>rfl
   |some y=>have:=e.block i;omega⟩ (λh d=>by grind)
 refine⟨.map (f b.a.heap.size),.value (.map (f b.a.heap.size)),_,.map (f b.a.heap.size),?_,.inl a,Rd.val a,m,t2,?_⟩
 .simp[ab,q,Instr.makeMap,run_newObj,bj]
 simp[ab,q,Instr.makeMap];exact .nil
end
section
variable {ac:m (Nat×cq)}
def a0.h6(aV:b0 P ac){D M E:ae}(aa:r.op=.slice o D (f M) (f E) n){H a4}(al:b1 ac o=f H)(ao:H.desc=.slice W)(au:b1 ac W=f a4){B h T}{s q}{e t}(az:η D=cD d (.R B h T j))(N:a4.size=h){aM R}(z:k[d]?=f (.p aM R B U))(av:η M=ax (.int s e))(aw:η E=ax (.int q t))(aB:0<=e)(aC:e<=t)(aD:T+t<=B):a0 P r η k (cD d (.R B h (T+e.toNat) (t.toNat-e.toNat))) k:=by
 subst N;refine .aY λg p K m=>?_;have aj:=m D;rw[az]at aj;have ai:=aj;change cB k g (p D) (.K d _)at ai;obtain⟨S,⟨Z,F,b,Y,X,af,aJ,an,V,G⟩,y,ag⟩:=ai;have aI:B<=Y:=by
  obtain⟨L,ar,Q⟩:=(ag _ _ _ _ z).2 rfl;rcases K.box d _ L z ar with⟨rfl,rfl⟩|⟨i,g9,A,aG,rfl,_,_,aq,_⟩
  .exact g1 _
  rw[V]at Q;cases Q;exact aq
 have C:=m M;rw[av]at C;replace C:=b8 C;generalize ah:p M=aE at C;cases C;have v:=m E;rw[aw]at v;replace v:=b8 v;generalize O:p E=aF at v;cases v;have I:=(aV o H al).run_underlying (M:=g.a);rw[ao]at I;have w:(aW l j b (f (.int s e)) (f (.int q t)) n).run P g.a=.ok (e.toNat,t.toNat,b) g.a:=by simp[aW,run_sliceBound (P:=P) g.a q t b _ x x,run_sliceBound (P:=P) g.a s e t.toNat _ x x]
 have J:(aW l j b (f (.int s e)) (f (.int q t)) n).events P g.a #[]=#[]:=by
  simp[aW,run_sliceBound (P:=P) g.a q t b _ x x,run_sliceBound (P:=P) g.a s e t.toNat _ x x,
   lb (P:=P) g.a q t b _ x x,lb (P:=P) g.a s e t.toNat _ x x]
 refine⟨.slice (if b=e.toNat then Z else Z.map (·.add (e.toNat*a4.size))) (t.toNat-e.toNat) (b-e.toNat),?_,⟨S,⟨_,F,_,Y,a,by omega,by omega,an,V,λaH=>?_⟩,y,ag⟩,by simp[ab,aa,X,ah,O,Instr.sliceAt,I,Instr.slice,w,J]⟩
 .simp[ab,aa,X,ah,O,Instr.sliceAt,I,Instr.slice,w,(aV W a4 au).a_]
 obtain⟨i,rfl,rfl⟩:=G x;exact Qo
end
section
open Go.ChangeMaps (setBlock)
section
def WJ(d)(ty)(b i e o)(seen)(U)(clock)(s:d.heap[b]?=f (.mapIter (f i) e seen o))(v:d.heap[i]?=f (.map U clock))(A:∀k∈U.toList,k.born<e)(D:e<=o):
    ∀h∈(Instr.next (.pointer (f ⟨b,0,n⟩)) u ty).events P d #[],h.sync=u/\(h.loc=.obj b∨h.loc=.obj i):=by
  have J:(getObj b).run P d=.ok (.mapIter (f i) e seen o) d:=by simp[getObj,Sem.run,s]
  have F:(getObj i).run P d=.ok (.map U clock) d:=by simp[getObj,Sem.run,v]
  have Q:∀U,(getObj b).events P d U=U.push ⟨.obj b,u,u⟩:=λU=>by simp only[getObj,Sem.events,Sem.runT,s];rfl
  have I:∀U,(getObj i).events P d U=U.push ⟨.obj i,u,u⟩:=λU=>by simp only[getObj,Sem.events,Sem.runT,v];rfl
  have K:∀w1 q j,w1.heap[b]?=f (.mapIter (f i) e seen o)->(setObj b (.mapIter (f i) e q clock)).events P w1 j=j.push ⟨.obj b,l,u⟩:=λw1 q j g=>by simp[setObj,Sem.events,Sem.runT,g];rfl
  have z:∀w1 p,w1.heap[b]?=f (.mapIter (f i) e seen o)->∃w2,(setObj b p).run P w1=.ok () w2:=λw1 p g=>⟨{w1 with heap:=w1.heap.setIfInBounds b p},by simp[setObj,Sem.run,g]⟩
  simp only[Instr.next,aD,J,F,Q,I,aG,next_test_false seen U e o A D,j7,dm];generalize y:((if(Array.filter (λk=>decide (k.born<e)) (Array.filter (λh=>!seen.contains h.born) U)).isEmpty=l then #[n]else #[])++Array.map f (Array.filter (λk=>decide (k.born<e)) (Array.filter (λh=>!seen.contains h.born) U)++Array.filter (λk=>decide (k.born≥e)) (Array.filter (λh=>!seen.contains h.born) U)))=L;have O:∃r w1,(w1=d∨w1=d.drew)/\(choose (Question.mapNext L.size)).run P d=.ok r w1/\∀U,(choose (Question.mapNext L.size)).events P d U=U:=by
    by_cases w:L.size<=1
    · exact⟨0,d,Or.inl a,by simp[choose,Sem.run,Question.forced,w],λU=>by simp⟩
    · exact⟨_,d.drew,Or.inr a,by simp only[choose,Sem.run,Question.forced,bw,w,dm,Question.cut];rfl,λU=>by simp⟩
  obtain⟨r,w1,E,B,C⟩:=O;have t:w1.heap[b]?=f (.mapIter (f i) e seen o):=by rcases E with rfl|rfl<;>exact s
  simp only[B,C,aG];intro h m;have fin:h∈(#[⟨.obj b,u,u⟩,⟨.obj i,u,u⟩,⟨.obj b,l,u⟩]:Array aR):=by
    cases x:L[r]? with
    |none=>rw[x]at m;simp[stuck,Sem.events,Sem.runT]at m;rcases m with g|g<;>simp[g]
    |some p=>
      rw[x]at m;cases p with
      |none=>simp at m;rcases m with g|g<;>simp[g]
      |some k=>
        obtain⟨w2,M⟩:=z w1 (.mapIter (f i) e (seen.push k.born) clock) t;simp[K w1 _ _ t]at m;rcases m with g|g|g<;>simp[g]
  simp at fin;rcases fin with rfl|rfl|rfl<;>simp
def UK(a)(b i e)(seen:Array Nat)(U)(clock)(d)(g:a.heap[b]?=f (.mapIter (f i) e (seen.push d.born) clock))(h:a.heap[i]?=f (.map U clock))(q:d∈U.toList)(r:(U.toList.map (·.born)).Nodup):
    (Instr.entry (.pointer (f ⟨b,0,n⟩))).events P a #[]=#[⟨.obj b,u,u⟩,⟨.obj i,u,u⟩]:=by
  have j:U.find? (·.born==d.born)=f d:=by rw[<-Array.find?_toList];grind[find_born]
  have o:(getObj b).run P a=.ok (.mapIter (f i) e (seen.push d.born) clock) a:=by simp[getObj,Sem.run,g]
  have k:(getObj i).run P a=.ok (.map U clock) a:=by simp[getObj,Sem.run,h]
  have p:∀U,(getObj b).events P a U=U.push ⟨.obj b,u,u⟩:=λU=>by simp only[getObj,Sem.events,Sem.runT,g];rfl
  have m:∀U,(getObj i).events P a U=U.push ⟨.obj i,u,u⟩:=λU=>by simp only[getObj,Sem.events,Sem.runT,h];rfl
  simp only[Instr.entry,aD,o,k,p,m,aG,Array.back?_push,h4,j7,dm,j];rfl
def kY(h e:Nat)(b:Array Nat):Y->(Nat->Option Obj)->Prop:=λi a=>∃d:Nat,i=.pointer (f ⟨d,0,n⟩)/\a=λg=>if g=d then f (.mapIter (f h) e b e)else n
def uh(H:Y->(Nat->Option Obj)->Prop)(e:Nat)(b:Array MapEntry)(d:Nat):Prop:=∀g a,H g a->a e=f (.map b d)
variable {p:af P}
def bc.ei(bO:bc k b)(aI:k[d]?=f (.E H)){g}{U}{q}(h:uh H g U q):b.a.heap[g]?=f (.map U q)/\∃L∈b.s,g∈L.ab:=by have e:d<c b.s:=h2;obtain⟨i,a,j,m,o⟩:=bO.box d _ b.s[d] aI (bF e);have:=h _ _ a;grind
def bc.hp(bO:bc k b){j q}{dz}(aI:k[d]?=f (.E (kY j q dz))):∃a:Nat,b.s[d]?=f ⟨.pointer (f ⟨a,0,n⟩),((b.s[d]?).map (·.ab)).getD []⟩/\b.a.heap[a]?=f (.mapIter (f j) q dz q)/\∀L,b.s[d]?=f L->∀e,e∈L.ab↔e=a:=by
  have h:d<c b.s:=h2;have i:=bF h;obtain⟨m,⟨a,o,p⟩,g,t,s⟩:=bO.box d _ b.s[d] aI i;refine⟨a,?_,g a _ N,λL r e=>?_⟩
  · rw[i];simp[<-o]
  grind
def g.range{o M E}{t z}(j:r.op=.range o (.tmp M))(ag:r.dst=f E)(W:r.guard=n)(G:fp D r.dst=l)(I:P.underlying o=f (.map t z)){ba}(R:∀b m,bZ D k b F m->bc k b->m.eval (.tmp M)=.map (f ba)){qF:Nat}{H:Y->(Nat->Option Obj)->Prop}{U}{q}(aI:k[qF]?=f (.E H))(N:uh H ba U q)(ai:g p D be (.S all br::av) .normal ((E,.n (.ar (.aK (c k))))::F) (k++[.E (kY ba q #[])])):g p D be (.S all (r::br)::av) .normal F k:=by
  refine g.cE (ι:=Unit) (λ_=>.n (.ar (.aK (c k)))) (λ_=>k++[.E (kY ba q #[])]) W G ?_ λ_=>by exact hy
  intro b m O h;have J:=R b m O h;obtain⟨w,L,af,V⟩:=h.ei aI N;have B:=run_range_map b.a o t z ba U q I w;have C:(Instr.range o (.map (f ba))).events P b.a #[]=#[⟨.obj ba,u,u⟩]:=by
    have Z:∀U,(getObj ba).events P b.a U=U.push ⟨.obj ba,u,u⟩:=λU=>by simp only[getObj,Sem.events,Sem.runT,w];rfl
    have ae:∀r K U,(newObj r).events P K U=U:=λr K U=>by simp
    simp[Instr.range,run_underlying I,MapKept.run_getObj_map w,Z,ae]
  have ah:∀d,b.a.heap.size<=d->∀r,b.u d r=n:=λd e r=>by
    cases i:b.u d r with
    |none=>rfl
    |some aa=>have:=h.block i;omega
  let bj:au:=b.a.alloc (.mapIter (f ba) q #[] q);have Q:bj.heap.size=b.a.heap.size+1:=by show(b.a.heap.push _).size=_;simp
  have aj:bj.heap[b.a.heap.size]?=f (.mapIter (f ba) q #[] q):=lR _ _;obtain⟨y,X⟩:=h.cY (cf:=b.u) (bj:=bj) x (λd e=>iU _ _ e) (λ_ _ _=>rfl) (λd e r aa i=>by grind) rfl rfl rfl;obtain⟨s,v⟩:=y.bX (bS:=.E (kY ba q #[])) (L:=⟨.pointer (f ⟨b.a.heap.size,0,n⟩),[b.a.heap.size]⟩) X rfl h
    ⟨λd=>if d=b.a.heap.size then f (.mapIter (f ba) q #[] q)else n,⟨_,rfl,rfl⟩,λd r e=>by grind,λd=>by by_cases S:d=b.a.heap.size<;>simp[S],λd e r=>by grind⟩
    (λd e=>by grind)
  refine⟨(),.value (.pointer (f ⟨b.a.heap.size,0,n⟩)),_,.pointer (f ⟨b.a.heap.size,0,n⟩),?_,.inl a,⟨λbS A=>?_,⟨.pointer (f ⟨b.a.heap.size,0,n⟩),[b.a.heap.size]⟩,?_,a,a⟩,s,v,?_⟩
  · simp[ab,j,J,cJ,B,c8,dZ];rfl
  · rw[hn (bB _)]at A;simp at A;subst A;rfl
  · show(b.s++_)[c k]?=_
    rw[<-h.len,hn (bB _)];simp
  · exact yb (dw.of_eq C (.ar (mu af V))) (by simp[ab,j,J])
def bZ.kp{d}(g:look F d=cL aa):∀b a,bZ D k b F a->bc k b->a.eval (.tmp d)=aa:=λb a e _=>by have:=e.al d;rw[g]at this;exact Rd.a' this
inductive sg (U:Array MapEntry) (dz:Array Nat)
  |over (s:∀aj∈U.toList,aj.born∈dz)
  |ar (aj:MapEntry) (s:aj∈U.toList) (jn:aj.born∉dz)
def sg.c'{U}{dz}:sg U dz->y
  |.over _=>.Q [.ar (.c (.bool u))]
  |.ar a _ _=>.Q [.ar (.c (.bool l)),.ar (.v a.key),.ar (.v a.val)]
def sg.a0{U}{dz}:sg U dz->Array Nat
  |.over _=>dz
  |.ar a _ _=>dz.push a.born
def g.next{B W}{ty}(cz:r.op=.next (.tmp B) u)(aD:r.type=ty)(aa:r.dst=f W)(ae:r.guard=n)(K:fp D r.dst=l){qF kh:Nat}(ah:look F B=.n (.ar (.aK kh))){ba q}{dz}(T:k[kh]?=f (.E (kY ba q dz))){H:Y->(Nat->Option Obj)->Prop}{U}(aI:k[qF]?=f (.E H))(ag:uh H ba U q)(Z:MapKept.Stamped U q)(ax:∀b∈U.toList,dU b.key=l/\dU b.val=l)(an:∀s:sg U dz,g p D be (.S all br::av) .normal ((W,s.c')::F) (k.set kh (.E (kY ba q s.a0)))):g p D be (.S all (r::br)::av) .normal F k:=by
  refine g.cE (ι:=sg U dz) (λs=>s.c') (λs=>k.set kh (.E (kY ba q s.a0))) ae K ?_ λs=>by rw[aa];exact an s
  intro h aj af o;obtain⟨e,i,x,G⟩:=o.hp T;have t:aj.eval (.tmp B)=.pointer (f ⟨e,0,n⟩):=by
    have:=af.al B;rw[ah]at this;obtain⟨_,L,S,t,_⟩:=(show cB _ h _ (.aK kh)from this)
    rw[i]at S;cases S;exact t
  obtain⟨V,L,S,aC⟩:=o.ei aI ag;have au:=b' i;have aw:=(G _ i e).2 a;have X:dw h ((Instr.next (.pointer (f ⟨e,0,n⟩)) u r.type).events P h.a #[]):=by
    intro b A;obtain⟨ar,M|M⟩:=WJ h.a r.type e ba q q dz U q x V Z.1 (bB _) b A
    · obtain⟨O,wr,aM⟩:=b;grind[mu]
    · obtain⟨O,wr,aM⟩:=b;grind[mu]
  have ao:k.set kh (.E (kY ba q dz))=k:=mX;rcases run_next_at (P:=P) h.a r.type e ba q q dz U q x V Z.1 (bB _)with⟨ai,C⟩|⟨b,A,w1,Q,C⟩
  · have aq:∀b∈U.toList,b.born∈dz:=by intro b A;have:=Array.eq_empty_of_size_eq_zero ai;unfold leftOf at this;grind[Array.filter_eq_empty_iff]
    refine⟨.over aq,.value (.tuple #[.bool u]),h,_,?_,.inl a,⟨[.bool u],a,Rd.bool,v⟩,?_,?_,?_⟩
    · simp[ab,cz,t,cJ,C,c8,dZ]
    · show bc (k.set kh (.E (kY ba q dz))) h
      grind
    · show cN k h (k.set kh (.E (kY ba q dz))) h
      rw[ao];exact .refl _ _
    · exact yb X N9
  · have J:b∈U.toList/\b.born∉dz:=by simp[leftOf]at A;grind
    have z:w1.heap=h.a.heap/\w1.os=h.a.os/\w1.tape=h.a.tape/\w1.output=h.a.output:=by rcases Q with rfl|rfl<;>exact⟨rfl,rfl,rfl,rfl⟩
    have az:e<h.a.heap.size:=o.lt _ au e aw;have y:e<w1.heap.size:=N;obtain⟨R,t2⟩:=o.ca (d:=kh) (j1:=kY ba q (dz.push b.born)) (ct:=⟨.pointer (f ⟨e,0,n⟩),((h.s[kh]?).map (·.ab)).getD []⟩) (bj:=setBlock w1 e (.mapIter (f ba) q (dz.push b.born) q)) T i rfl
      (by simp[setBlock,z.1]) (λm j al=>by
        have aB:e≠m:=N;simp[setBlock]
        grind) (λm j=>.inl j)
      ⟨λm=>if m=e then f (.mapIter (f ba) q (dz.push b.born) q)else n,⟨e,rfl,rfl⟩,λm r j=>by
        by_cases w:m=e
        · subst w
          simp[dH]at j;cases j;simp[setBlock];grind
        grind,λm=>by
        rw[G _ i m]
        by_cases w:m=e<;>simp[w]⟩ (by simp[setBlock,z.2.1]) (by simp[setBlock,z.2.2.1]) (by simp[setBlock,z.2.2.2])
    obtain⟨E,I⟩:=ax b J.1;refine⟨.ar b J.1 J.2,.value (.tuple #[.bool l,b.key,b.val]),_,_,?_,.inl a,⟨[.bool l,b.key,b.val],a,Rd.bool,Rd.val E,Rd.val I,v⟩,R,t2,?_⟩
    · simp[ab,cz,t,cJ,C,c8,dZ]
    · exact yb X N9
def g.entry{s v}(i:r.op=.entry (.tmp s))(O:r.dst=f v)(R:r.guard=n)(z:fp D r.dst=l){qF kh:Nat}(Q:look F s=.n (.ar (.aK kh))){ba q:Nat}{dz:Array Nat}{aj:MapEntry}(E:k[kh]?=f (.E (kY ba q (dz.push aj.born)))){U:Array MapEntry}(aI:k[qF]?=f (.E H))(J:uh H ba U q)(t:MapKept.Stamped U q)(w:aj∈U.toList){bI:y}(I:∀e:a5,bv k e (.tuple #[aj.key,aj.val]) bI)(S:g p D be (.S all br::av) .normal ((v,bI)::F) k):g p D be (.S all (r::br)::av) .normal F k:=by
  refine g.cE (ι:=Unit) (λ_=>bI) (λ_=>k) R z ?_ λ_=>by exact hy
  intro e A C d;obtain⟨j,b,h,M⟩:=d.hp E;have m:A.eval (.tmp s)=.pointer (f ⟨j,0,n⟩):=by
    have:=C.al s;rw[Q]at this;obtain⟨_,L,o,m,_⟩:=(show cB _ e _ (.aK kh)from this)
    rw[b]at o;cases o;exact m
  obtain⟨x,L,o,B⟩:=d.ei aI J;have K:=run_entry_at (P:=P) e.a j ba q dz U q aj h x w t.2.1;have N:=UK (P:=P) e.a j ba q dz U q aj h x w t.2.1;refine⟨(),.value (.tuple #[aj.key,aj.val]),e,_,?_,.inl a,I e,d,.refl _ _,?_⟩
  · simp[ab,i,m,cJ,K,c8,dZ]
  · exact yb (dw.of_eq N (.fi (mu (b' b) ((M _ b j).2 a)) (mu o B))) (by simp[ab,i,m])
end
end
inductive fu where
 |nil (w:Option Addr)
 |row (i cap:Nat)
def c0(b:fu)(g:Nat):Y:=match b with
 |.nil d=>.slice d 0 0
 |.row e a=>.slice (f ⟨e,0,n⟩) g a
def tE(bN)(j):dU (c0 bN j)=l:=by cases bN<;>rfl
def E2(a:m Y):Nat->m O:=λb=>[.val (a.getD b I)]
section
variable {p:af P}
def b2.e3{aM}{dG:ι->bH}{aq:ι->m an}(J:∀e g,bZ D k e F g->bc k e->∃(b:ι)(a:a5),a.a=e.a/\bZ D (aq b) a (dG b) g/\bc (aq b) a/\cN k e (aq b) a)(M:∀b,b2 p D q aM (dG b) (aq b)):b2 p D q aM F k:=by intro e g O d C w o B v t;obtain⟨b,a,N,I,z,y⟩:=J e g O d;have A:=y.too1 d;refine .aS (.of d z N A) ?_;exact M b a g I z C w o B v λE K i x j Q r s h=>t E K i x j Q r s (A.trans h)
def g.gT(d){y:an}(h:ι->an)(t:k[d]?=f y)(s:∀i L,ez k i y L->∃j,(∀aq,ez aq i (h j) L)/\fP y L (h j) L)(E:∀j,g p D be (.code q::av) .normal F (k.set d (h j))):g p D be (.code q::av) .normal F k:=by
 refine b2.e3 (dG:=λ_=>F) (aq:=λj=>k.set d (h j)) (λi M z bO=>?_) E;have O:d<c k:=(cO.1 t).1;have I:d<c i.s:=h2;have A:=bF I;generalize i.s[d]=L at A;obtain⟨j,J,Q⟩:=s i L (bO.box d _ L t A);have w:fv k i (k.set d (h j)) i:=by
  refine⟨λ_ _ _ s=>s,λm o r b e=>?_⟩;by_cases x:d=m
  .subst x;rw[t]at b;cases b;rw[A]at e;cases e;simp_all
  exact⟨o,r,by grind,e,.refl _ _⟩
 have v:cN k i (k.set d (h j)) i:=
  ⟨bB _,λ_ _ _=>rfl,λ_ _ _ s=>s,λ_ _ _ _=>rfl,λL s N C=>.inr ⟨L,s,C⟩,w.box,rfl,rfl,rfl,rfl⟩
 refine⟨j,i,a,⟨z.size,z.defers.imp λ_ B=>B.mono v.ext,λK=>(z.al K).mono v.ext bO.len⟩,⟨bO.mem,by simp[bO.len],?_,bO.a1,bO.lt,bO.own⟩,v⟩;intro m o r b e;by_cases x:d=m
 .subst x;simp_all
 rw[kB x]at b;exact(bO.box m o r b e).cb w bO.len λ_ _=>⟨a,λ_=>rfl⟩
def g.gB(d)(b:ι->Y->(Nat->Option Obj)->Prop)(h:k[d]?=f (.E H))(r:∀j a,H j a->∃e,b e j a)(i:∀e,g p D be (.code q::av) .normal F (k.set d (.E (b e)))):g p D be (.code q::av) .normal F k:=
 g.gT d (λe=>.E (b e)) h (λs L ⟨a,m,o⟩=>let ⟨e,bp⟩:=r _ _ m;⟨e,λ_=>⟨a,bp,o⟩,rfl⟩) i
def g.gU(d){W h}(a:Nat->m O)(x:k[d]?=f (.p W h j U))(J:∀b,b<j->c (a b)=h)(M:∀z b,b<j->∀(i:Nat) r,(a b)[i]?=f r->∃q,(U b)[i]?=f q/\∀o,Rd z o q->Rd z o r)(y:g p D be (.code q::av) .normal F (k.set d (.p W h j a))):g p D be (.code q::av) .normal F k:=by
 refine g.gT (ι:=Unit) d (λ_=>.p W h j a) x (λV L v=>⟨(),λC=>?_,λ_=>rfl,bB _⟩) λ_=>y;rcases v with T|⟨E,Z,A,X,s,t,Y,N,S,B,Q⟩
 .exact .inl T
 refine .inr ⟨E,Z,A,X,s,t,Y,N,S,⟨B.len,J,λb e i r w=>?_⟩,Q⟩;obtain⟨q,aa,R⟩:=M V.u b e i r w;obtain⟨o,K,I⟩:=B.rd b e i q aa;exact⟨o,K,R o I⟩
end
def nm:O->Bool
 |.int _ _|.bool _|.V _|.bo|.bC|.ds|.val _=>l
 |_=>u
def nl:Q->Bool
 |.c a=>nm a
 |.any=>l
 |_=>u
def yv:m Q->Bool
 |[]=>l
 |a::b=>match nl a with|true=>yv b|false=>u
def vh:E1->Bool
 |.ar b=>nl b
 |.agg a=>yv a
def yu:m E1->Bool
 |[]=>l
 |a::b=>match vh a with|true=>yu b|false=>u
def yt:y->Bool
 |.n b=>vh b
 |.Q a=>yu a
 |.any=>l
section
theorem vg{a}{q}(b:nm q=l)(d:Rd bA aa q):Rd a aa q:=by
 cases d<;>first|(simp[nm]at b;done)|skip
 case int cQ=>exact .int cQ
 case bool=>exact .bool
 case V cQ dr=>exact .V cQ dr
 case bo=>exact .bo
 case bC=>exact .bC
 case ds=>exact .ds
 case val cQ=>exact .val cQ
def JX{a}(d:nl a=l)(e:cB k b aa a):cB aq az aa a:=by
 cases a with
 |c g=>exact vg d e
 |any=>exact e
 |_=>simp[nl]at d
def JZ:∀{A:m Y}{a:m Q},yv a=l->bM k b A a->bM aq az A a
 |[],[],_,_=>trivial
 |[],_::_,_,d=>d.elim
 |_::_,[],_,d=>d.elim
 |i::A,h::a,e,d=>by
  simp[yv]at e;cases g:nl h with
  |false=>grind
  |true=>simp[g]at e;exact⟨JX g d.1,JZ e d.2⟩
def C_{C}(a:vh C=l)(d:eA k b aa C):eA aq az aa C:=by
 cases C with
 |ar i=>exact JX a d
 |agg h=>obtain⟨A,e,g⟩:=d;exact⟨A,e,JZ a g⟩
def JY:∀{A:m Y}{a:m E1},yu a=l->eX k b A a->eX aq az A a
 |[],[],_,_=>trivial
 |[],_::_,_,d=>d.elim
 |_::_,[],_,d=>d.elim
 |i::A,h::a,e,d=>by
  simp[yu]at e;cases g:vh h with
  |false=>grind
  |true=>simp[g]at e;exact⟨C_ g d.1,JY e d.2⟩
def YS{a}(d:yt a=l)(e:bv k b aa a):bv aq az aa a:=by
 cases a with
 |n j=>exact C_ d e
 |Q i=>obtain⟨A,g,h⟩:=e;exact⟨A,g,JY d h⟩
 |any=>trivial
end
def qJ:m an->Bool
 |[]=>l
 |.E _::a=>qJ a
 |.J::a=>qJ a
 |_=>u
def K9:∀{e:m an},qJ e=l->∀a∈e,(∃H,a=.E H)∨a=.J
 |[],_,a,aI=>by grind
 |b::g,h,a,aI=>by
  have d:((∃H,b=.E H)∨b=.J)/\qJ g=l:=by cases b<;>simp_all[qJ]
  rcases fa.1 aI with rfl|aI
  .exact d.1
  exact K9 d.2 a aI
def Az(i:m an)(j:Nat)(p:Y)(k o:Nat)(h:Nat->m O):Prop:=
 ∀e,bc i e->∃L d,e.s[j]?=f L/\(∀a b g,e.u a b=f g->d a b=f g)/\(∀a,a∉L.ab->∀b,d a b=e.u a b)/\(∀a b g,d a b=f g->e.a.cell? ⟨a,b,n⟩=f g) /\
  (∀a∈L.ab,∀b,e.u a b=n)/\Rd d p (.R u k o h)
section
variable {p:af P}
def b4.h3{k}{b}{i}:∀{A:m Y}{a:m y}{S:Nat}{e:Y},b4 k b A a->A[S]?=f e->bv k b e i->b4 k b A (a.set S i)
 |[],[],_,_,_,d,_=>by grind
 |[],_::_,_,_,d,_,_=>d.elim
 |_::_,[],_,_,d,_,_=>d.elim
 |o::A,j::a,0,e,d,h,g=>by simp at h;subst h;exact⟨g,d.2⟩
 |o::A,j::a,S+1,e,d,h,g=>⟨d.1,b4.h3 (S:=S) d.2 N g⟩
def pT(j:m an)(k g:m y):Prop:=
 ∀e A,bc j e->b4 j e A k->∃(i:Nat->Prop) (d:Mem),(∀a,i a->∃L∈e.s,a∈L.ab)/\(∀a b h,e.u a b=f h->d a b=f h)/\(∀a,¬i a->∀b,d a b=e.u a b) /\
  (∀a b h,d a b=f h->e.a.cell? ⟨a,b,n⟩=f h)/\(∀a,i a->∀b,e.u a b=n)/\b4 j {e with u:=d} A g
def pT.refl(k)(bg):pT k bg bg:=λe A b d=>⟨λ_=>False,e.u,λ_ a=>a.elim,λ_ _ _ a=>a,λ_ _ _=>rfl,b.mem,λ_ a=>a.elim,d⟩
def pT.step{bg e}(I:pT k bg e)(o T){r}{h}(M:e[o]?=f (cL r))(x:Az k T r h j U):pT k bg (e.set o (ax (.R u h j U))):=by
 classical
 intro q A i y;obtain⟨t,d,aa,R,W,G,Q,B⟩:=I q A i y;obtain⟨L,m,C,H,O,V,X,S⟩:=x q i;have p:∀a b g,d a b=f g->(d a b).or (m a b)=f g:=λa b g s=>by grind
 have w:∀a b g,m a b=f g->(d a b).or (m a b)=f g:=λa b g s=>by
  cases D:d a b with
  |none=>grind
  |some z=>
   grind
 refine⟨λa=>t a∨a∈L.ab,λa b=>(d a b).or (m a b),N,λa b g s=>p a b g (R a b g s),N,?_,?_,?_⟩
 .intro a b g s;cases D:d a b with
  |none=>grind
  |some z=>grind
 .grind
 have v:fv k {q with u:=d} k {q with u:=λa b=>(d a b).or (m a b)}:=⟨p,λY t L aI C=>⟨t,L,aI,C,.refl _ _⟩⟩
 have K:=B.mono v i.len;obtain⟨Z,F⟩:=b4.get B;have E:o<c A:=N;have J:A[o]?=f r:=by have:=F o;rw[M,bF E]at this;have:=Rd.a' (show Rd d A[o] (.val r)from this);grind
 exact K.h3 J (show bv k {q with u:=λa b=>(d a b).or (m a b)} r (ax (.R u h j U))from Rd.mono w S)
end
def cp(j:ao)(i:Nat)(e:fu)(g:Nat)(b:m Y):Y->(Nat->Option Obj)->Prop:=λp d=>p=.nilFunc/\(∀q∈b,dU q=l)/\c b=g*i/\match e with
 |.nil _=>g=0/\d=λ_=>n
 |.row k a=>g<=a/\a<=9223372036854775807/\∃h,c (b++h)=a*i/\d=λo=>if o=k then f (.cells (b++h).toArray j (0,0))else n
def l4(b:Nat)(a:m Y):Nat->m O:=λd=>((a.drop (d*b)).take b).map .val
def Nv{h}{ag}(a:c ag=j*h)(bp:e<j):c (l4 h ag e)=h:=by have:e*h+h<=j*h:=F1;simp[l4,a];omega
def Nu{h}{ag}{q}(b:(l4 h ag e)[t]?=f q):∃a,ag[e*h+t]?=f a/\q=.val a:=by simp[l4,m_,iq,p6]at b;grind
def cp.lookup{h cap}{ag}(d:cp W h (.row i cap) j ag aa k7):∃a,c (ag++a)=cap*h/\k7 i=f (.cells (ag++a).toArray W (0,0))/\∀b,(k7 b).isSome=l↔b=i:=by obtain⟨_,_,_,_,_,a,e,g⟩:=d;grind
def Rd.kq{cap h}{ag}(q:∀s∈ag,dU s=l)(d:c ag=j*h)(g:j<=cap)(p:cap<=9223372036854775807)(v:∀m,bA i m=ag[m]?):Rd bA (.slice (f ⟨i,0,n⟩) j cap) (.R u h j (l4 h ag)):=by refine Rd.eJ (bA:=bA) (h:=h) (j:=j) (U:=l4 h ag) (A:=ag) (w:=f ⟨i,0,n⟩) (i:=i) (off:=0) (cap:=cap) (o:=u) ⟨d,λr b=>Nv d b,λr b y t e=>?_⟩ bn g p E (λz k x=>by grind);obtain⟨k,a,rfl⟩:=Nu e;exact⟨k,a,.val (q k (b' a))⟩
section
variable {p:af P}
def cp.fH{h d}{bN}{ag}(e:k[d]?=f (.E (cp W h bN j ag)))(U:Nat->m O)(C:∀a,a<j->c (U a)=h/\∀J b g D,(U a)[b]?=f g->ag[a*h+b]?=f D->Rd J D g):Az k d (c0 bN j) h j U:=by
 intro q bO;have ab:=(cO.1 e).1;have X:d<c q.s:=h2;have r:=bF X;generalize q.s[d]=L at r;obtain⟨M,H,R,F,v⟩:=bO.box d _ L e r;cases bN with
 |nil K=>
  obtain⟨_,_,_,rfl,_⟩:=H;exact⟨L,q.u,r,λ_ _ _ S=>S,λ_ _ _=>rfl,bO.mem,v,Rd.dK⟩
 |row i cap=>
  obtain⟨ai,af,Z,aa⟩:=H.lookup;obtain⟨ah,G,z,V,Q,_⟩:=H;have I:=(F i).2 N
  have Y:=R i _ Z;obtain⟨s,t⟩:=bO.fw (i:=i) (A:=ag) (v i I) (λp ao T=>by
   simp[aL,Y]
   grind)
  refine⟨L,λy p=>if y=i then ag[p]? else q.u y p,r,t,λy aM p=>bl N,s.mem,v,?_⟩;refine Rd.eJ (h:=h) (j:=j) (U:=U) (A:=ag) (w:=f ⟨i,0,n⟩) (i:=i) (off:=0) (cap:=cap) (o:=u) ⟨z,λa bp=>(C a bp).1,λa bp b g x=>?_⟩ bn V Q E (λal an aj=>by grind);have ae:b<h:=N;have B:a*h+b<c ag:=by rw[z];have:a*h+h<=j*h:=F1;omega
  exact⟨ag[a*h+b],bF B,(C a bp).2 _ b g _ x (bF B)⟩
def eF.ft{h}{C aC:ae}(J:j0 P r C aC W a4)(aa:a4.size=h){bN}{ag}(U:bE F C=cL (c0 bN j))(Y:k[d]?=f (.E (cp W h bN j ag))){r6}{dJ:Nat->m O}(bq:bE F aC=ax (.R r6 h 1 dJ)){h1}(bK:c h1=h)(bC:∀bA g (s:Nat) bu,(dJ 0)[s]?=f bu->Rd bA g bu->h1[s]?=f g/\dU g=l)(v:(j+1)*a4.bytes<=140737488355328):
  eF P D r F k (λbf:fu=>cL (c0 bf (j+1))) λbf=>k.set d (.E (cp W h bf (j+1) (ag++h1))):=by
 intro b aD aN bO;obtain⟨bY,t2,a0,bU,Z,w,G,y,Q⟩:=J.op;have bm:=(cO.1 Y).1;have ar:d<c b.s:=h2;have R:=bF ar;generalize b.s[d]=L at R;obtain⟨bS,aB,bP,aJ,aF⟩:=bO.box d _ L Y R;have bd:=b' R;have al:=eQ aN C;rw[U]at al;have al:=Rd.a' al;have S:=eQ aN aC;rw[bq]at S;have S:=b8 S;have aM:=aB.2.1;have H:=aB.2.2.1;have bV:∀i,b.a.heap.size<=i->∀r,b.u i r=n:=λi v r=>by
  cases bn:b.u i r with
  |none=>rfl
  |some g=>have:=bO.block bn;omega
 have mk:∀p z cap,c0 bN j=.slice z j cap->cap<j+1->bc (k.map λ_=>.J) {b with u:=p}->(∀e r g,b.u e r=f g->p e r=f g) ->
   Rd p (.slice z j cap) (.R u h j (l4 h ag))->(∀{K},dw {b with u:=p} K->dw b K) ->
   ∃a0 aw af g,(ab aD.eval r).run P b.a=.ok aw af.a/\(aw=.value g∨(aw=.skip/\g=I))/\bv (k.set d (.E (cp W h a0 (j+1) (ag++h1)))) af g (cL (c0 a0 (j+1)))/\bc (k.set d (.E (cp W h a0 (j+1) (ag++h1)))) af/\cN k b (k.set d (.E (cp W h a0 (j+1) (ag++h1)))) af/\dw b ((ab aD.eval r).events P b.a #[]):=by
  intro p z cap aS q aj aG aH ah;have a6:Rd ({b with u:=p}:a5).u (aD.eval aC) (.R r6 a4.size 1 dJ):=by rw[aa];exact S.mono aG
  have ai:Rd ({b with u:=p}:a5).u (.slice z j cap) (.R u a4.size j (l4 h ag)):=N;obtain⟨A,t,br,o,X,f3,f4,f5⟩:=vV (P:=P) (b:={b with u:=p}) (ty:=r.type) w G y Q J.elem aj ai a6 q v J.bytes;have f6:=u4 (P:=P) (b:={b with u:=p}) (ty:=r.type) w G y Q J.elem aj ai a6 q v J.bytes;rw[aa]at o f4;have bI:=o.len;have bB:c ag+h=(j+1)*h:=N;have aP:0<h:=by have:=J.size;omega
  have aI:∀s,s<h->∃g,A[j*h+s]?=f g/\h1[s]?=f g/\dU g=l:=λs bl=>by
   have aV:=o.bD j x;have aZ:cg j (l4 h ag) dJ j=dJ 0:=by simp[cg]
   rw[aZ]at aV;obtain⟨g,a1,a2⟩:=o.rd j x s ((dJ 0)[s]'x) N;grind
  have aU:A=ag++h1:=by
   apply p';intro V;by_cases bx:V<c ag
   .have w:V / h<j:=sl N;have bG:=uu V h;have aW:=Nv (h:=h) H w;have bz:cg j (l4 h ag) dJ (V / h)=l4 h ag (V / h):=by simp[cg,w]
    have aO:V % h<c (l4 h ag (V / h)):=by rw[aW];exact p7 _ aP
    obtain⟨g,a1,a2⟩:=o.rd (V / h) x (V % h) ((l4 h ag (V / h))[V % h]) N;obtain⟨bZ,bW,bX⟩:=Nu (bF aO);grind[Rd.a']
   grind
  subst aU;have aq:∀C∈h1,dU C=l:=λC U=>by grind[List.getElem_of_mem]
  let bj:au:=b.a.drew.alloc (.cells (ag++h1++t).toArray W);have bo:bj.heap[b.a.heap.size]?=f (.cells (ag++h1++t).toArray W (0,0)):=lR b.a.drew _;have bH:bj.heap.size=b.a.heap.size+1:=NO;obtain⟨az,bb⟩:=bO.ca (d:=d) (j1:=cp W h (.row b.a.heap.size br) (j+1) (ag++h1)) (ct:=⟨L.v,[b.a.heap.size]⟩) (bj:=bj) Y R rfl x
   (λi v _=>iU b.a.drew _ v) (λi v=>by grind)
   ⟨λe=>if e=b.a.heap.size then f (.cells (ag++h1++t).toArray W (0,0))else n,⟨aB.1,λC U=>by grind,by grind,X,f3,t,by omega,rfl⟩,λi r v=>by grind,λi=>by by_cases bx:i=b.a.heap.size<;>simp[bx]⟩ a a a
  refine⟨.row b.a.heap.size br,.value (.slice (f ⟨b.a.heap.size,0,n⟩) (j+1) br),_,_,?_,.inl a,Rd.val a,az,bb,?_⟩
  .rw[lc Z,al,aS];simp[cJ,dZ];exact hy
  grind[lc,jm]
 cases bN with
 |nil z=>
  obtain⟨_,_,_,rfl,_⟩:=aB;refine mk b.u z 0 a E (by have:=bO.d';omega) (λ_ _ _ J=>J) Rd.dK (λJ=>J)
 |row i cap=>
  obtain⟨t,bM,ao,bh⟩:=aB.lookup;obtain⟨aT,_,_,q,bs,_⟩:=aB;have a7:i∈L.ab:=(aJ i).2 N;have ba:=bP i _ ao;have bt:=aF i a7;have bg:=bO.lt L bd i a7;have aK:∀r g,ag[r]?=f g->b.a.cell? ⟨i,r,n⟩=f g:=by intro r g Z;simp[aL,ba];grind
  obtain⟨aE,an⟩:=bO.fw (i:=i) (A:=ag) bt aK;have ah:∀{K:Array aR},dw {b with u:=λe r=>if e=i then ag[r]? else b.u e r} K->dw b K:=λbk=>
   bk.gL (i:=i) bd a7 an λe r g al=>by grind
  have aH:=Rd.kq (bA:=λe r=>if e=i then ag[r]? else b.u e r) (i:=i) (cap:=cap) (ag:=ag) aM H q bs (λr=>by simp);by_cases a9:j+1<=cap
  .have a6:Rd ({b with u:=λe r=>if e=i then ag[r]? else b.u e r}:a5).u (aD.eval aC) (.R r6 a4.size 1 dJ):=by rw[aa];exact S.mono an
   obtain⟨B,o,X⟩:=Ef (P:=P) (b:={b with u:=λe r=>if e=i then ag[r]? else b.u e r}) (ty:=r.type) (j:=j) (i:=i) (cap:=cap) w G y Q J.elem aE ba N a6 a9;have f6:=Cq (P:=P) (b:=b) (ty:=r.type) (j:=j) (i:=i) (cap:=cap) w G y Q J.elem bO ba N (C:=aD.eval aC) (r6:=r6) (dJ:=dJ) N a9 bd a7 (λr _=>bt r);rw[aa]at o X;have aQ:c B=h:=by have:=o.len;omega
   have bJ:=o.bD 0 x;have aI:∀s,s<h->∃g,B[s]?=f g/\h1[s]?=f g/\dU g=l:=λs bl=>by obtain⟨g,a1,a2⟩:=o.rd 0 x s ((dJ 0)[s]'x) (bF x);grind
   have bR:B=h1:=mX;subst bR;have aq:∀C∈B,dU C=l:=λC U=>by grind[List.getElem_of_mem]
   have bD:j*h+h<=cap*h:=by rw[<-o3];exact g7 _ a9
   have bL:h<=c t:=N;have bQ:((ag++t).take (j*h)++B++(ag++t).drop (j*h+c B))=ag++B++t.drop h:=by rw[<-H,aQ];simp
   rw[bQ]at X;have bp:(b.a.setRow i (ag++B++t.drop h).toArray).heap[i]?=f (.cells (ag++B++t.drop h).toArray W (0,0)):=setRow_heap b.a i _ _ W _ ba;have av:∀e,e≠i->(b.a.setRow i (ag++B++t.drop h).toArray).heap[e]?=b.a.heap[e]?:=λe a3=>setRow_other b.a i e _ a3;obtain⟨az,bb⟩:=bO.ca (d:=d) (j1:=cp W h (.row i cap) (j+1) (ag++B)) (ct:=L) (bj:=b.a.setRow i (ag++B++t.drop h).toArray) Y R rfl E
    (λe a3 bT=>av e N) (λe a3=>.inl a3)
    ⟨λe=>if e=i then f (.cells (ag++B++t.drop h).toArray W (0,0))else n,⟨aT,λC U=>by grind,by grind,a9,bs,t.drop h,by grind,rfl⟩,λe r a3=>by grind,λe=>by grind⟩ a a a
   refine⟨.row i cap,.value (.slice (f ⟨i,0,n⟩) (j+1) cap),_,_,?_,.inl a,Rd.val a,az,bb,?_⟩
   .rw[lc Z,al];simp only[cJ,dZ,c0];exact hy
   rw[lc Z,al];exact jm f6
  exact mk _ (f ⟨i,0,n⟩) cap a x aE an aH ah
def g.ft{h}{x y:ae}(E:j0 P r x y W a4)(J:a4.size=h){v}(C:r.dst=f v)(K:r.guard=n)(N:fp D r.dst=l){bN}{ag}(M:bE F x=cL (c0 bN j))(i:k[d]?=f (.E (cp W h bN j ag))){q}{b:Nat->m O}(I:bE F y=ax (.R q h 1 b)){h1}(A:c h1=h)(B:∀z s (w:Nat) t,(b 0)[w]?=f t->Rd z s t->h1[w]?=f s/\dU s=l)(e:(j+1)*a4.bytes<=140737488355328)(o:∀a:fu,g p D be (.S all br::av) .normal ((v,cL (c0 a (j+1)))::F) (k.set d (.E (cp W h a (j+1) (ag++h1))))):g p D be (.S all (r::br)::av) .normal F k:=
 g.cE (ι:=fu) (λa=>cL (c0 a (j+1))) (λa=>k.set d (.E (cp W h a (j+1) (ag++h1)))) K N (.ft E J M i I A B e) λa=>by rw[C];exact o a
def g.jH(o)(W)(h){t}(J:look F o=ax (.R l t 0 U))(v:∀e:fu,g p D be (.code q::av) .normal ((o,cL (c0 e 0))::F) (k++[.E (cp W h e 0 [])])):g p D be (.code q::av) .normal F k:=by
 refine b2.e3 (λy K i b=>?_) v;have x:=i.al o;rw[J]at x;obtain⟨d,w,A,I,_,_,j,_,_⟩:=(b8 x).bY;have j:=j a;subst j;obtain⟨C,m⟩:=b.bX (bS:=.E (cp W h (.nil d) 0 [])) (L:=⟨.nilFunc,[]⟩) (.refl _ _) rfl b ⟨λ_=>n,⟨rfl,by simp,by simp,rfl,rfl⟩,by simp,by simp,by simp⟩ E;refine⟨.nil d,{y with s:=y.s++[⟨.nilFunc,[]⟩]},rfl,⟨i.size,i.defers.imp λ_ r=>r.mono m.ext,λz=>?_⟩,C,m⟩;simp only[look];cases s:ad o z with
 |false=>exact(i.al z).mono m.ext b.len
 |true=>
  have B:=dn s;subst B;show Rd _ _ _;rw[I];exact Rd.val a
def g.iN(o d){h}{bN}{ag}(s:Nat->m O)(af:look F o=cL (c0 bN j))(w:k[d]?=f (.E (cp W h bN j ag)))(Z:∀E,E<j->c (s E)=h/\∀X M q V,(s E)[M]?=f q->ag[E*h+M]?=f V->Rd X V q)(K:g p D be (.code q::av) .normal ((o,ax (.R u h j s))::F) (k.set d .J)):g p D be (.code q::av) .normal F k:=by
 refine g.aS (λz aj C e=>?_) K;obtain⟨L,t,T,R,N,ae,Q,ai⟩:=cp.fH w s Z z e;have Y:=(cO.1 w).1;have S:=C.al o;rw[af]at S;have y:=Rd.a' S;have B:fv k z (k.set d .J) {z with u:=t}:=by
  refine⟨R,λr bS ct b lO=>?_⟩;by_cases v:d=r
  .subst v;rw[w]at b;cases b;exact⟨.J,ct,by grind,lO,a⟩
  exact Fv
 have x:cN k z (k.set d .J) {z with u:=t}:=by refine⟨bB _,λ_ _ _=>rfl,R,λA _ J ab=>N A (J L (b' T)) ab,λL aa A i=>.inr ⟨L,aa,i⟩,B.box,rfl,rfl,rfl,rfl⟩
 refine⟨{z with u:=t},rfl,⟨C.size,C.defers.imp λ_ I=>I.mono x.ext,λU=>?_⟩,⟨ae,by simp[e.len],?_,e.a1,e.lt,e.own⟩,x⟩
 .simp only[look];cases i:ad o U with
  |false=>exact(C.al U).mono x.ext e.len
  |true=>
   have v:=dn i;subst v;show Rd _ _ _;grind
 intro r bS ct b lO;by_cases v:d=r
 .subst v;rw[ip Y]at b;cases b;trivial
 rw[kB v]at b;exact(e.box r bS ct b lO).cb B e.len λA i=>⟨a,N A λah=>v (e.a1 d r L ct T lO A ah i)⟩
end
structure ej(h j:Nat)(U:Nat->m O)(ag:m Y):Prop where
 len:c ag=j*h
 et:∀e,e<j->c (U e)=h
 bS:∀e,e<j->∀t q,(U e)[t]?=f q->∃C,ag[e*h+t]?=f C/\∀bA,Rd bA C q
def ej.rd{h}{ag}(k:ej h j U ag):∀a,a<j->c (U a)=h/\∀bA e d i,(U a)[e]?=f d->ag[a*h+e]?=f i->Rd bA i d:=λa b=>
 ⟨k.et a b,λbA e d i g p=>by obtain⟨q,m,o⟩:=k.bS a b e d g;grind⟩
def M_(b:Y):Q->Q
 |.w 0 _ _ _=>.v b
 |a=>a
def EW(d:Y):E1->E1
 |.ar a=>.ar (M_ d a)
 |b=>b
def EX(a:Y):m E1->m E1
 |[]=>[]
 |b::d=>EW a b::EX a d
def M'(b:Y):y->y
 |.n d=>.n (EW b d)
 |.Q a=>.Q (EX b a)
 |.any=>.any
def rV(d:Nat):Q->Bool
 |.w 0 _ b _=>ad b d
 |a=>nl a
def vG(d:Nat):E1->Bool
 |.ar a=>rV d a
 |b=>vh b
def vH(a:Nat):m E1->Bool
 |[]=>l
 |b::d=>match vG a b with|true=>vH a d|false=>u
def DM(b:Nat):y->Bool
 |.n d=>vG b d
 |.Q a=>vH b a
 |.any=>l
section
variable {h:Nat}{L:Loc}
def adL(t:b.s[0]?=f L){e}(d:rV j e=l)(i:cB [an.w W h j U] b aa e):cB aq az aa (M_ L.v e):=by
 cases e with
 |c x=>exact vg d i
 |any=>exact i
 |w p v w m=>
  cases p with
  |zero=>
   obtain⟨s,_,g⟩:=i;have g:=g W h j U a;have r:=dn d;obtain⟨q,o,k⟩:=g.2 r.symm;rw[t]at o;cases o;show Rd _ _ _;rw[k];exact .val (k▸s.cell)
  |succ p=>simp[rV,nl]at d
 |ptr=>simp[rV,nl]at d
 |aK=>simp[rV,nl]at d
 |K=>simp[rV,nl]at d
def Nb(g:b.s[0]?=f L){C}(d:vG j C=l)(e:eA [an.w W h j U] b aa C):eA aq az aa (EW L.v C):=by
 cases C with
 |ar i=>exact adL g d e
 |agg a=>exact C_ (C:=.agg a) d e
def Nc(g:b.s[0]?=f L):∀{A:m Y}{a:m E1},vH j a=l->eX [an.w W h j U] b A a->eX aq az A (EX L.v a)
 |[],[],_,_=>trivial
 |[],_::_,_,d=>d.elim
 |_::_,[],_,d=>d.elim
 |o::A,k::a,e,d=>by
  simp[vH]at e;cases i:vG j k with
  |false=>grind
  |true=>simp[i]at e;exact⟨Nb g i d.1,Nc g e d.2⟩
def Na(d:b.s[0]?=f L){a}(e:DM j a=l)(g:bv [an.w W h j U] b aa a):bv aq az aa (M' L.v a):=by
 cases a with
 |n o=>exact Nb d e g
 |Q m=>obtain⟨A,i,k⟩:=g;exact⟨A,i,Nc d e k⟩
 |any=>trivial
end
def zD:m ResultVar->Bool
 |[]=>l
 |.tmp _::a=>zD a
 |.cell _ _::_=>u
def Nd{P}{w}:∀{rs:m ResultVar},zD rs=l->∃A,(∀a,(rs.mapM (ie w)).run P a=Result.ok A a)/\dC P (rs.mapM (ie w))
 |[],_=>⟨[],by simp,by rw[List.mapM_nil];exact .pure⟩
 |.tmp h::g,e=>by
  obtain⟨A,b,d⟩:=Nd (P:=P) (w:=w) (rs:=g) e;refine⟨w.tmps.getD h I::A,λa=>?_,?_⟩
  .simp only[o5,cJ,ie,dZ,c8,b]
  rw[o5];exact .bind .pure λ_=>.bind d λ_=>.pure
def l_.tmp{j}{fn}{hA}(r:l_ P j hA aa b)(F:P.funcs[j]?=f fn)(C:zD fn.results.toList=l)(o:∀p s t,b.u p s=f t->b.a.cell? ⟨p,s,n⟩=f t):l_ P j hA aa az:=by
 obtain⟨k,m,D,z,d,B,v⟩:=r;have g:d=fn:=N;subst g;let w:Act:={tmps:=hA.tmps,defers:=[]}
 obtain⟨A,k1,x⟩:=Nd (P:=P) (w:=w) C;have h:∀a,(d.results.mapM (ie w)).run P a=Result.ok A.toArray a:=λa=>by grind[Array.mapM_eq_mapM_toList,Sem.run_map,Go.Result.andThen_ok]
 have e:∀a,(results d hA.tmps).run P a=.ok (if r:A.toArray.size=1 then A.toArray[0]else .tuple A.toArray) a:=λa=>by unfold results;rw[cJ];refine(eC (λE=>Result.andThen E _) (h a)).trans ?_;simp
 have i:dC P (results d hA.tmps):=by
  unfold results;have g:dC P (d.results.mapM (ie w)):=by rw[xb];exact .map x
  exact .bind g λ_=>.pure
 have q:=(v b.a o).1;rw[e]at q;cases q;exact⟨k,m,D,z,d,B,λa _=>⟨e a,λg y=>by rw[i a #[]]at y;grind⟩⟩
def X.thaw{aO:af P}[aO.b2]{aT}{args}{res}{h}(B:X aO aT args [] res [.w W h j U]){fn}(al:P.funcs[aT]?=f fn)(ax:zD fn.results.toList=l)(bc:DM j res=l)(aM:∀y,y<j->c (U y)=h/\∀aQ∈U y,nm aQ=l):
  bk (ι:={S:fu×m Y // ej h j U S.2}) aO aT args [] (λS=>M' (c0 S.1.1 j) res) (λS=>[.E (cp W h S.1.1 j S.1.2)]):=by
 refine⟨B.1,λaC A a3 F br aS ag=>B.2 aC A a3 F br aS λZ bm az au w b d=>?_⟩;have a9:aC.s=[]:=jD F.len;have a0:c az.s=1:=b.len;obtain⟨L,bb⟩:∃L,az.s=[L]:=by
  match aeI:az.s with
  |[L]=>grind
  |[]=>grind
  |_::_::_=>grind
 have aP:az.s[0]?=f L:=N;obtain⟨ah,ai⟩:=b.box 0 _ L rfl aP;rcases ai with⟨⟨bf,aw⟩,o⟩|⟨i,cap,cells,ae,Q,aj,bB⟩
 .subst aw;obtain⟨bd,cap,bn,a6,aV,bg,aB,_⟩:=o.bY;have G:cap=0:=aB a;subst G;let z:a5:={az with s:=[⟨.nilFunc,[]⟩]}
  have aW:e3 az z:=⟨rfl,λ_ _ _ B=>B,λ_ _ _=>rfl,b.mem,λi D=>by grind⟩
  have aK:ej h 0 U []:=⟨by simp,λy r=>by omega,λy r=>by omega⟩
  refine .aS aW (ag ⟨(.nil bd,[]),aK⟩ Z bm z (au.tmp al ax b.mem) ?_ ?_ ?_)
  .have:=Na (aq:=[an.E (cp W h (.nil bd) 0 [])]) (az:=z) aP bc w;rw[a6]at this;exact this
  .refine⟨b.mem,a,λK aN p aI e=>?_,?_,by grind,λi D=>⟨(b.own i D).1,by grind⟩⟩
   .cases K with
    |zero=>cases aI;cases e;exact⟨λ_=>n,⟨a,by simp,by simp,a,a⟩,by simp,by simp,by simp⟩
    |succ K=>grind
   grind
  refine⟨d.size,d.aV,d.mem,d.bz,λp e i D=>?_,λK aN p aI=>by grind,d.os,d.tape,d.output,d.own⟩;grind
 .subst ae;have a':i∈(⟨.slice (f ⟨i,0,n⟩) j cap,[i]⟩:Loc).ab:=E;have aH:aC.a.heap.size<=i:=by
   rcases d.bN _ N i a' with aa|⟨bp,aa,_⟩
   .exact aa
   grind
  have aU:i<az.a.heap.size:=b.lt _ N i a';obtain⟨bx,aR,C,bs,bj,bq,_,ab,a1⟩:=ah.bY;cases bs;have ba:c C=j*h:=ab.len;have a7:∀v T,C[v]?=f T->cells[v]?=f T:=λv T J=>by obtain⟨bz,a_,aG,bw⟩:=a1 v T J;cases aG;have:=b.mem _ _ _ bw;simp[aL,Q]at this;simpa using this
  have bh:j*h<=c cells:=by rw[aj];exact g7 _ bj
  have aJ:cells.take (j*h)=C:=mX;have a4:C++cells.drop (j*h)=cells:=F3;have aK:ej h j U C:=by refine⟨ba,λy r=>(aM y r).1,λy r bA aQ I=>?_⟩;obtain⟨T,R,aE⟩:=ab.rd y r bA aQ I;grind[vg]
  have H:∀aF∈C,dU aF=l:=λaF a8=>by
   obtain⟨v,J,rfl⟩:=g6 a8;have aZ:0<h:=N;have r:v / h<j:=sl N;have bt:v / h*h+v % h=v:=uu v h;have I:v % h<c (U (v / h)):=by rw[(aM _ r).1];exact p7 _ aZ
   obtain⟨T,R,aE⟩:=aK.bS _ r _ _ (bF I);rw[bt,bF J]at R;cases R;exact(aE aC.u).cell
  have bo:∀g s k,aC.u g s=f k->g≠i:=λg s k av aG=>by have:=F.block av;omega
  let V:Mem:=λg s=>if g=i then n else az.u g s;let M:a5:={az with s:=[],own:=λaF=>az.own aF∨aF=i}
  let aD:a5:={M with u:=V}
  let z:a5:={az with s:=[⟨.nilFunc,[i]⟩],u:=V}
  have O:∀g s k,V g s=f k->az.u g s=f k:=λg s k q=>by grind
  have ar:e3 az M:=⟨rfl,λ_ _ _ B=>B,λ_ _ _=>rfl,b.mem,λg t=>by
   rcases t with(t|t)|⟨p,e,_⟩
   .grind
   .exact .inr ⟨_,by rw[bb];simp;rfl,by grind⟩
   grind⟩
  have ao:nT M aD:=⟨rfl,rfl,rfl,O,λg s k q=>by grind⟩
  have bu:e3 aD z:=⟨rfl,λ_ _ _ B=>B,λ_ _ _=>rfl,λg s k q=>b.mem _ _ _ (O _ _ _ q),λg t=>by grind⟩
  refine .aS ar (.bZ af.b2.ok ao (.aS bu (ag ⟨(.row i cap,C),aK⟩ Z bm z (au.tmp al ax b.mem) ?_ ?_ ?_)))
  .exact Na (L:=⟨.slice (f ⟨i,0,n⟩) j cap,[i]⟩) aP bc w
  .refine⟨λg s k q=>b.mem _ _ _ (O _ _ _ q),a,λK aN p aI e=>?_,?_,λp e g t=>?_,λg t=>⟨(b.own g t).1,λp e=>?_⟩⟩
   .cases K with
    |zero=>
     cases aI;cases e;refine⟨λg=>if g=i then f (.cells (C++cells.drop (j*h)).toArray W (0,0))else n,⟨a,H,ba,bj,bq,cells.drop (j*h),N,a⟩,λg s t=>N,λg=>?_,λg t s=>?_⟩
     .by_cases aG:g=i<;>simp[aG]
     grind
    |succ K=>grind
   .grind
   .grind
   simp[z]at e;subst e;have:=(b.own g t).2 _ (by rw[bb];simp;rfl);grind
  refine⟨d.size,d.aV,λg s k q=>?_,λg t a2 s=>?_,λp e g t=>?_,λK aN p aI=>by grind,d.os,d.tape,d.output,d.own⟩
  .simp only[z,V,bl (bo g s k q)];exact d.mem _ _ _ q
  .have:g≠i:=x;simp[z,V,bl this];exact d.bz g t a2 s
  grind
section
variable {p:af P}
def g.iY{d:Prop}(i:∀b,bc k b->d)(j:d->g p D be (.code q::av) .normal F k):g p D be (.code q::av) .normal F k:=
 λb e h a=>j (i b a) b e h a
def g.fA{d:Prop}(i:∀b,bc k b->d)(j:d->g p D be (.S all br::av) .normal F k):g p D be (.S all br::av) .normal F k:=
 λb e h a=>j (i b a) b e h a
def cp.len{W}{m e d:Nat}{bN}{ag}(g:k[d]?=f (.E (cp W m bN e ag)))(b)(bO:bc k b):c ag=e*m/\e<=9223372036854775807/\(0<e->∃i a,bN=.row i a)/\∀h,bN=.nil h->e=0:=by
 have o:d<c b.s:=h2;obtain⟨p,j,_⟩:=bO.box d _ _ g (bF o);cases bN with
 |nil h=>obtain⟨_,_,q,rfl,_⟩:=j;grind
 |row i a=>obtain⟨_,_,q,r,s,_⟩:=j;grind
def g.jx(aV:b0 P ac)(E:Nat){v:ae}{e}{eP}{h}{bN}{ag}(cz:r.op=.call {callee:=.builtin .len,args:=#[v],argTypes:=dt})(N:dt[0]?=f o)(q:b1 ac o=f e)(I:e.desc=.slice eP)(Q:bE F v=cL (c0 bN j))(s:k[E]?=f (.E (cp W h bN j ag)))(O:r.guard=n)(w:fp D r.dst=l)(t:g p D be (.S all br::av) .normal (gf r.dst (ax (.int .i64 j)) F) k):g p D be (.S all (r::br)::av) .normal F k:=by
 refine g.cE (ι:=Unit) (λ_=>ax (.int .i64 j)) (λ_=>k) O w (λm x J i=>?_) λ_=>t;obtain⟨_,A,_,K⟩:=cp.len s m i;have al:=eQ J v;rw[Q]at al;have al:=Rd.a' al;have z:=(aV o e q).run_underlying (M:=m.a);rw[I]at z;have B:dt[0]?=f o:=N;have y:∃d b,c0 bN j=.slice d j b:=by
  cases bN with
  |nil d=>rw[K d rfl];exact⟨d,0,a⟩
  |row R b=>exact⟨_,b,rfl⟩
 obtain⟨d,b,C⟩:=y;rw[C]at al;refine⟨(),.value (.int .i64 j),m,.int .i64 j,Rs,.inl a,Rd.int cT,i,.refl _ _,?_⟩;have:(ab x.eval r).events P m.a #[]=#[]:=Rs;rw[this];exact .nil
def vf:m Q->Bool
 |[]=>l
 |.c b::a=>match nm b with|true=>vf a|false=>u
 |_=>u
def m6(A:m Y)(a:m Q):Prop:=c A=c a/\∀(d:Nat)b,a[d]?=f (Q.c b)->∃e,A[d]?=f e/\∀g,Rd g e b
theorem m6.of{k}{b}:∀{A:m Y}{d:m Q},vf d=l->bM k b A d->m6 A d
 |[],[],_,_=>⟨rfl,λi o e=>by grind⟩
 |[],_::_,_,g=>g.elim
 |_::_,[],_,g=>g.elim
 |r::A,.c s::d,e,g=>by
  simp[vf]at e;cases j:nm s with
  |false=>grind
  |true=>
   simp[j]at e;obtain⟨p,q⟩:=m6.of e g.2;refine⟨by grind,λi o h=>?_⟩;cases i with
   |zero=>simp at h;subst h;exact⟨r,a,λt=>vg j g.1⟩
   |succ i=>grind
 |_::_,.ptr _ _::_,e,_=>by exact cT
 |_::_,.w _ _ _ _::_,e,_=>by exact cT
 |_::_,.aK _::_,e,_=>by exact cT
 |_::_,.K _ _::_,e,_=>by exact cT
 |_::_,.any::_,e,_=>by exact cT
theorem bM.gp{k}{b}:∀{A:m Y}{d:m Q},bM k b A d->∀g∈A,AM.dU g=l
 |[],[],_,g,e=>by grind
 |[],_::_,a,_,_=>a.elim
 |_::_,[],a,_,_=>a.elim
 |i::A,h::d,a,g,e=>by
  rcases fa.1 e with rfl|e
  .exact cB.cell a.1
  exact bM.gp a.2 g e
def eF.eR(aV:b0 P ac)(d){S s:ae}{h cap}{ag}{new}{e}(aq:r.op=.store o S s)(Q:b1 ac o=f e)(R:bE F S=cL (.pointer (f ⟨i,off,n⟩)))(ah:mm (bE F s)=f new)(X:c new=e.size)(M:vf new=l)(w:k[d]?=f (.E (cp W h (.row i cap) j ag)))(Z:off+c new<=c ag):
  eF P D r F k (ι:={A:m Y // m6 A new}) (λ_=>.any) (λA=>k.set d (.E (cp W h (.row i cap) j (ag.take off++A.1++ag.drop (off+c A.1))))):=by
 intro q t K bO;have x:=eQ K S;rw[R]at x;have x:=Rd.a' x;have O:=uV ah (eQ K s);have V:d<c k:=(cO.1 w).1;have aC:d<c q.s:=h2;have T:=bF aC;generalize q.s[d]=L at T;obtain⟨aJ,C,aN,aH,J⟩:=bO.box d _ L w T;obtain⟨p,ax,aM,U⟩:=cp.lookup C;obtain⟨aI,aP,aw,G,aF,_⟩:=C;have an:i∈L.ab:=(aH i).2 N;have ai:=aN i _ aM;let A:=(t.eval s).cells.toList;have ao:m6 A new:=m6.of M O;have au:c A=c new:=ao.1;have az:off+0+c A<=(ag++p).toArray.size:=N;have al:=run_storeCells_at P i off W A 0 (ag++p).toArray q.a ai az O.cell;simp only[j8]at al;have aB:(ag++p).take off++A++(ag++p).drop (off+c A)=(ag.take off++A++ag.drop (off+c A))++p:=N;rw[aB]at al;have af:c (ag.take off++A++ag.drop (off+c A))=c ag:=N;have aa:=setRow_heap q.a i (ag++p).toArray ((ag.take off++A++ag.drop (off+c A))++p).toArray W (0,0) ai;have y:∀g,g≠i->(q.a.setRow i ((ag.take off++A++ag.drop (off+c A))++p).toArray).heap[g]?=q.a.heap[g]?:=λg B=>setRow_other q.a i g _ B;obtain⟨aj,t2⟩:=bO.ca (d:=d) (j1:=cp W h (.row i cap) j (ag.take off++A++ag.drop (off+c A))) (ct:=L) (bj:=q.a.setRow i ((ag.take off++A++ag.drop (off+c A))++p).toArray) w T rfl E
  (λg B aL=>y g N) (λg B=>.inl B)
  ⟨λg=>if g=i then f (.cells ((ag.take off++A++ag.drop (off+c A))++p).toArray W (0,0))else n,⟨aI,λS R=>by grind[bM.gp],by grind,G,aF,p,by grind,rfl⟩,λg r B=>by simp_all,λg=>by simp_all⟩ a a a
 have H:(t.eval s).cells.size=e.size:=N;refine⟨⟨A,ao⟩,.skip,_,I,?_,.inr ⟨a,a⟩,v,aj,t2,?_⟩
 .have av:(storeCells ⟨i,off,n⟩ (t.eval s).cells.toList).run P q.a=_:=al;simp[ab,aq,x,Instr.storeAt,Instr.sureAddr,storeVar,(aV o e Q).a_,H,av]
 intro z b;have aK:ab t.eval r=(do storeVar o ⟨i,off,n⟩ (t.eval s);pure .skip):=by simp[ab,aq,x,Instr.storeAt,Instr.sureAddr]
 rw[aK]at b;have aE:z∈(storeCells ⟨i,off,n⟩ (t.eval s).cells.toList).events P q.a #[]:=by
  simp[storeVar,aD,(aV o e Q).a_,H,aG,events_sizeOf,d6,hv,dm,cJ,c8,Sem.events_pure]at b;generalize(storeCells ⟨i,off,n⟩ (t.eval s).cells.toList).run P q.a=aO at b;cases aO with
  |ok aR bj=>simpa using b
  |halt S bj=>simpa using b
 rcases ng (t.eval s).cells.toList 0 (ag++p).toArray q.a #[] ai az O.cell z aE with ar|⟨aQ,_,_,rfl⟩
 .grind
 exact og (b' T) an (J i an _)
def g.eR{ac}(aV:b0 P ac)(d){o}{q s}{W}{h j i cap off}{ag}{new}{e}(y:r.op=.store o q s)(a:b1 ac o=f e)(B:bE F q=cL (.pointer (f ⟨i,off,n⟩)))(x:mm (bE F s)=f new)(v:c new=e.size)(w:vf new=l)(b:k[d]?=f (.E (cp W h (.row i cap) j ag)))(t:off+c new<=c ag)(z:r.guard=n)(C:fp D r.dst=l)(m:∀A,m6 A new->g p D be (.S all br::av) .normal (gf r.dst .any F) (k.set d (.E (cp W h (.row i cap) j (ag.take off++A++ag.drop (off+c A)))))):g p D be (.S all (r::br)::av) .normal F k:=
 g.cE _ _ z C (eF.eR aV d y a B x v w b t) λA=>m A.1 A.2
def g.swap(e t){i j:Y->(Nat->Option Obj)->Prop}(ar:e≠t)(z:k[e]?=f (.E i))(A:k[t]?=f (.E j))(K:∀T r,i T r->T=.nilFunc)(al:∀T r,j T r->T=.nilFunc)(V:g p D be (.code q::av) .normal F ((k.set e (.E j)).set t (.E i))):g p D be (.code q::av) .normal F k:=by
 refine g.aS (λo ax aa bO=>?_) V;have O:e<c k:=(cO.1 z).1;have Q:t<c k:=(cO.1 A).1;have an:e<c o.s:=h2;have aq:t<c o.s:=h2;obtain⟨x,ae⟩:∃L,o.s[e]?=f L:=⟨_,bF an⟩;obtain⟨C,ag⟩:∃L,o.s[t]?=f L:=⟨_,bF aq⟩;have y:=bO.box e _ x z ae;have ab:=bO.box t _ C A ag;have aw:x.v=.nilFunc:=by obtain⟨r,G,_⟩:=y;grind
 have H:C.v=.nilFunc:=by obtain⟨r,G,_⟩:=ab;grind
 let m:a5:={o with s:=(o.s.set e C).set t x}
 have af:∀b,((k.set e (.E j)).set t (.E i))[b]?=if b=t then f (.E i)else if b=e then f (.E j)else k[b]?:=λb=>by grind
 have W:∀b,m.s[b]?=if b=t then f x else if b=e then f C else o.s[b]?:=λb=>by grind
 have Z:∀L∈m.s,L∈o.s:=λL h=>by grind
 have s:fv k o ((k.set e (.E j)).set t (.E i)) m:=by
  refine⟨λ_ _ _ J=>J,λb U L aI h=>?_⟩;rw[af,W];by_cases w:b=t
  .subst w;rw[A]at aI;cases aI;rw[ag]at h;cases h;exact⟨.E i,x,by simp,by simp,by show x.v=_;grind⟩
  by_cases N:b=e
  .subst N;rw[z]at aI;cases aI;rw[ae]at h;cases h;exact⟨.E j,C,by simp[w],by simp[w],by show C.v=_;grind⟩
  exact⟨U,L,by grind,by grind,.refl _ _⟩
 have X:cN k o ((k.set e (.E j)).set t (.E i)) m:=by exact⟨bB _,λ_ _ _=>rfl,λ_ _ _ J=>J,λ_ _ _ _=>rfl,λL J v d=>.inr ⟨L,Z L J,d⟩,s.box,rfl,rfl,rfl,rfl⟩
 refine⟨m,a,⟨aa.size,aa.defers.imp λ_ K=>K.mono s,λao=>(aa.al ao).mono s bO.len⟩,⟨bO.mem,by simp[m,bO.len],?_,?_,λL h v d=>bO.lt L (Z L h) v d,λv d=>⟨(bO.own v d).1,λL h=>(bO.own v d).2 L (Z L h)⟩⟩,X⟩
 .intro b U L aI h;rw[af]at aI;rw[W]at h;split at aI
  .rename_i w;rw[bo w]at h;cases aI;cases h;exact y
  rename_i w;rw[bl w]at h;split at aI
  .rename_i N;rw[bo N]at h;cases aI;cases h;exact ab
  rename_i N;rw[bl N]at h;exact(bO.box b U L aI h).cb s bO.len λv d=>⟨a,λ_=>rfl⟩
 intro b B E I R S v d M;rw[W]at R S;have key:∀b L,(if b=t then f x else if b=e then f C else o.s[b]?)=f L->o.s[if b=t then e else if b=e then t else b]?=f L:=λb L az=>by grind
 have:=bO.a1 _ _ E I (key b E R) (key B I S) v d M;by_cases ah:b=t<;>by_cases ai:B=t<;>by_cases aj:b=e<;>by_cases au:B=e<;>simp_all
def g.jF(aV:b0 P ac){S T:ae}{e}{H U}(aD:r.op=.makeSlice o S T)(ah:b1 ac o=f e)(aL:e.desc=.slice W)(aa:b1 ac W=f a4)(al:bE F S=ax (.int H j))(an:bE F T=ax (.int U j))(i:j*a4.bytes<=140737488355328)(aT:j<=140737488355328)(ag:r.guard=n)(af:fp D r.dst=l)(aq:∀z d,g p D be (.S all br::av) .normal (gf r.dst (cL (c0 (.row z j) j)) F) (k++[.E (cp W a4.size (.row z j) j d)])):g p D be (.S all (r::br)::av) .normal F k:=by
 refine g.cE (ι:=Nat×m Y) (λv=>cL (c0 (.row v.1 j) j)) (λv=>k++[.E (cp W a4.size (.row v.1 j) j v.2)]) ag af (λb V aC q=>?_) λv=>aq v.1 v.2;have I:=eQ aC S;rw[al]at I;have I:=b8 I;generalize az:V.eval S=aN at I;cases I;have J:=eQ aC T;rw[an]at J;have J:=b8 J;generalize y:V.eval T=aO at J;cases J;have ao:=(aV o e ah).eO;rw[aL]at ao;obtain⟨A,K,R,aP,aQ,aB,bq,aR,aS⟩:=(aV W a4 aa).dc;have B:(A.bytes:Int)*(j:Int)<=281474976710656:=N;have aH:=run_make (P:=P) (w:=b.a) o W A K ao R aB H U j j x (Int.le_refl _) B x;simp[c5]at aH;let d:=(madeCells K.cells (j*A.size)).toList;have G:c d=j*a4.size:=by grind[size_madeCells]
 have aE:∀C∈K.cells.toList,dU C=l:=bM.gp (ul (k:=k) (b:=b) bq);have aF:c K.cells.toList=a4.size:=N3;have aK:∀C∈d,dU C=l:=by intro C aj;simp[d,madeCells,Array.toList_map,ho]at aj;grind[Nat.mod_lt]
 have aI:ez (k++[.E (cp W a4.size (.row b.a.heap.size j) j d)]) {b with a:=b.a.alloc (.cells d.toArray W),s:=b.s++[⟨.nilFunc,[b.a.heap.size]⟩]} (.E (cp W a4.size (.row b.a.heap.size j) j d)) ⟨.nilFunc,[b.a.heap.size]⟩:=by
  refine⟨λQ=>if Q=b.a.heap.size then f (.cells (d++[]).toArray W (0,0))else n,⟨a,aK,G,bB _,by omega,[],by grind,a⟩,λQ r B=>?_,λQ=>?_,λQ B r=>?_⟩
  .by_cases s:Q=b.a.heap.size
   .subst s;simp[dH]at B;grind[lR]
   grind
  .by_cases s:Q=b.a.heap.size<;>simp[s]
  simp at B;subst B;cases t:b.u b.a.heap.size r with
  |none=>rfl
  |some C=>have:=q.block t;omega
 have O:bc k {b with a:=b.a.alloc (.cells d.toArray W)}/\cN k b k {b with a:=b.a.alloc (.cells d.toArray W)}:=
  q.cY E (λz i=>iU b.a _ i) (λz i r=>rfl) (λz i r C t=>by have:=q.block t;omega) a a a
 obtain⟨X,Z⟩:=O.1.bX O.2 rfl q aI (λz i=>by simp_all);refine⟨(b.a.heap.size,d),.value (.slice (f ⟨b.a.heap.size,0,n⟩) j j),_,_,?_,.inl a,Rd.val a,X,Z,?_⟩
 .simp[ab,aD,az,y,aH,d]
 have s:ab V.eval r=(do pure (.value (<-Instr.makeSlice o (.int H j) (.int U j)))):=by simp[ab,aD,az,y]
 rw[s];refine jm ?_;intro s w;have ai:∀h,(underlying o).run P h=.ok (.slice W) h:=λh=>by simp[underlying,ao]
 have aJ:∀h,(typeInfo W).run P h=.ok A h:=λh=>by simp[typeInfo,R]
 have L:∀h,(zeroValue W).run P h=.ok K h:=λh=>by simp[zeroValue,typeInfo,R,aB]
 have aM:∀h,(sizeOf W).run P h=.ok A.size h:=λh=>by simp[sizeOf,typeInfo,R]
 have aw:IntKind.i64.wrap (j:Int)=j:=by grind[IntKind.wrap_i64]
 have ar:¬(j:Int)<0:=x;have au:¬(281474976710656<(A.bytes:Int)*j):=x;simp[Instr.makeSlice,ai,aJ,aM,asInt,asIntOf,aw,ar,au]at w;rw[L]at w;simp[aG,(dC.newRow (P:=P)) _ _,ite_self]at w;unfold askRoom at w;split at w
 .have:s=⟨.mark .noRoom,u,l⟩:=by simpa using w
  rw[this];exact .inl a
 simp at w
end
section
variable {h K:Nat}{bz:Y}
end
def YR{a A:m α}{b}(g:b+c A<=c a)(d):(a.take b++A++a.drop (b+c A))[d]?=if b<=d/\d<b+c A then A[d-b]? else a[d]?:=by have e:c (a.take b)=b:=N;grind
def ej.ff{h}{d:Nat->m O}{ag}{new}(k:ej h j U ag)(e t)(bp:e<j)(q:m6 A new)(D:t+c new<=h)(B:∀a,a<j->a≠e->d a=U a)(v:c (d e)=h)(p:∀b g,(d e)[b]?=f g->(t<=b/\b<t+c new/\new[b-t]?=f (Q.c g))∨(¬(t<=b/\b<t+c new)/\(U e)[b]?=f g)):ej h j d (ag.take (e*h+t)++A++ag.drop (e*h+t+c A)):=by
 have J:e*h+h<=j*h:=F1;have I:=q.1;have E:=k.len;have r:e*h+t+c A<=c ag:=x;refine⟨by grind,λa i=>?_,λa i b g z=>?_⟩
 .by_cases o:a=e
  .grind
  rw[B a i o];exact k.et a i
 rw[YR r];by_cases o:a=e
 .subst o;rcases p b g z with⟨cQ,dr,C⟩|⟨cQ,dr⟩
  .rw[bo x,show a*h+b-(a*h+t)=b-t by omega];exact q.2 _ g C
  rw[bl x];exact k.bS a i b g dr
 have y:(U a)[b]?=f g:=N;have F:b<h:=by rw[<-k.et a i];grind
 rw[bl ?_]
 .exact k.bS a i b g y
 rcases Nat.lt_or_gt_of_ne o with w|s
 .have:a*h+h<=e*h:=by rw[<-o3];exact g7 _ w
  omega
 have:e*h+h<=a*h:=by rw[<-o3];exact g7 _ s
 omega
def ej.gH{h}{a:Nat->m O}{ag}(g:ej h j U ag)(s:∀b,b<j->a b=U b)(t:c (a j)=h)(y:c A=h)(B:∀(d:Nat)e,(a j)[d]?=f e->∃o,A[d]?=f o/\∀p,Rd p o e):ej h (j+1) a (ag++A):=by
 have v:=g.len;refine⟨by grind,λb k=>?_,λb k d e z=>?_⟩
 .by_cases r:b=j
  .grind
  rw[s b x];exact g.et b x
 by_cases r:b=j
 .grind
 have i:b<j:=x;have q:(U b)[d]?=f e:=N;have w:d<h:=by rw[<-g.et b i];grind
 have:b*h+h<=j*h:=by rw[<-o3];exact g7 _ i
 rw[j5 x];exact g.bS b i d e q
def pz(b:m (Nat×cq))(a:bH):m ResultVar->Option (m y)
 |[]=>f []
 |.tmp i::h=>match pz b a h with
  |some g=>f (look a i::g)
  |none=>n
 |.cell d i::h=>match pz b a h with
  |some g=>match look a d with
   |.n (.ar (.c (.M e)))=>match b1 b i with
    |some k=>match hk k (e.map Q.c)with
     |some j=>f (.n j::g)
     |none=>n
    |none=>n
   |_=>n
  |none=>n
def Ed{P}{ac}(aV:b0 P ac){D}{k}{b}{F}{V}(ab:bZ D k b F V):∀{S:m ResultVar}{d:m y},pz ac F S=f d ->
  ∃A,b4 k b A d/\∀M,(∀i B T,b.u i B=f T->M.cell? ⟨i,B,n⟩=f T)->(S.mapM (ie V)).run P M=Result.ok A M/\∀p,∀z∈(S.mapM (ie V)).events P M p,z∈p∨∃i B T,z=⟨.cell ⟨i,B,n⟩,u,u⟩/\b.u i B=f T
 |[],d,o=>by cases o;exact⟨[],v,λM _=>⟨by simp,λp z q=>.inl (by simpa using q)⟩⟩
 |.tmp x::an,d,o=>by
  simp[pz]at o;cases W:pz ac F an with
  |none=>grind
  |some aJ=>
   simp[W]at o;subst o;obtain⟨A,af,aM⟩:=Ed aV ab W;refine⟨V.tmps.getD x I::A,⟨ab.al x,af⟩,λM C=>?_⟩;obtain⟨k1,R⟩:=aM M C;refine⟨by simp[o5,cJ,ie,dZ,c8,k1],λp z q=>R p z ?_⟩;simpa[o5,ie,k1]using q
 |.cell t x::an,d,o=>by
  simp[pz]at o;cases W:pz ac F an with
  |none=>grind
  |some aJ=>
   simp[W]at o;have Z:=ab.al t;generalize look F t=aO at o Z;split at o
   case h_2=>cases o
   rename_i e;cases J:b1 ac x with
   |none=>grind
   |some s=>
    simp[J]at o;cases O:hk s (e.map Q.c)with
    |none=>grind
    |some ag=>
     simp[O]at o;subst o;obtain⟨A,af,aM⟩:=Ed aV ab W;have G:=b8 Z;generalize aF:V.tmps.getD t I=aL at G;cases G;rename_i i h X K aq;let U:=(aA (c e)).map X;have H:bM k b U (e.map Q.c):=by
      have key:∀j d,(∀g aa,d[g]?=f aa->Rd b.u (X (j+g)) aa)->bM k b ((aA (c d)).map λg=>X (j+g)) (d.map Q.c):=by
       intro j d;induction d generalizing j with
       |nil=>intro _;trivial
       |cons aI d aj=>
        intro Y;rw[fw,wY];refine⟨Y 0 aI a,?_⟩;have:=aj (j+1) (λg aa w=>by have:=Y (g+1) aa N;grind);grind[Function.comp_def]
      have:=key 0 e N;grind
     have ax:∀g r,U[g]?=f r->b.u i (h+g)=f r:=λg r w=>by
      simp[U,m_]at w;by_cases ar:g<c e
      .simp[ar]at w;subst w;exact K g e[g] (bF ar)
      grind
     let aN:au:={b.a with heap:=b.a.heap}
     have aw:∃r,eA k b r ag/\∀M,(∀i B T,b.u i B=f T->M.cell? ⟨i,B,n⟩=f T)->(loadVar x ⟨i,h,n⟩).run P M=.ok r M:=by
      have ae:=aV x s J;cases E:s.agg<;>simp[hk,E]at O
      .cases av:c' 0 (e.map Q.c)with
       |none=>grind
       |some aH=>
        simp[av]at O;subst O;obtain⟨r,ai,aC⟩:=H.get (er av);refine⟨r,aC,λM C=>?_⟩;have:=C _ _ _ (ax 0 r ai);simp[loadVar,cJ,ae.ey,c8,E];grind[run_load]
      cases av:mS s.size (e.map Q.c)with
      |none=>grind
      |some r0=>
       simp[av]at O;subst O;obtain⟨al,aK⟩:=tM av;have ao:=H.take s.size;rw[<-al]at ao;have ah:c (U.take s.size)=s.size:=N;refine⟨.agg (U.take s.size).toArray,⟨U.take s.size,a,ao⟩,λM C=>?_⟩;have L:=run_loadCells_list (P:=P) M ⟨i,h,n⟩ (U.take s.size) (λg r w=>by grind[g2]);rw[ah]at L;simp[loadVar,cJ,ae.ey,c8,E];simp[ae.a_,L]
     obtain⟨r,aB,aE⟩:=aw;refine⟨r::A,⟨aB,af⟩,λM C=>?_⟩;obtain⟨k1,R⟩:=aM M C;have az:(ie V (.cell t x))=loadVar x ⟨i,h,n⟩:=by simp[ie,aF,asAddr]
     refine⟨by grind[Go.Sem.run_bind,Go.Sem.run_pure,Go.Result.andThen_ok],λp z q=>?_⟩;rw[o5,az]at q;simp[aD,aE M C,aG,k1,Sem.events_pure]at q;rcases R _ z q with q|q
     .rcases DB q with q|q
      .grind
      obtain⟨g,w,rfl⟩:=pa (aV x s J) (M:=M) (j:=c e) (λg w=>⟨X g,C _ _ _ (K g e[g] (bF w))⟩) (by have:=r7 O;grind) z q;exact .inr ⟨i,h+g,X g,a,K g e[g] (bF w)⟩
     grind
theorem oW.fb(aV:b0 P ac){fn}{bg}{m}(t:pz ac F fn.results.toList=f bg)(j:pp bg=f m):oW P fn F m:=by
 intro z B x e r;obtain⟨A,h,i⟩:=Ed aV r t;refine⟨_,Ko j h,λd s=>?_⟩;obtain⟨k1,v⟩:=i d s;have g:(fn.results.mapM (ie e)).run P d=Result.ok A.toArray d:=Ru;have p:∀a,∀b∈(fn.results.mapM (ie e)).events P d a,b∈a∨∃k o y,b=⟨.cell ⟨k,o,n⟩,u,u⟩/\x.u k o=f y:=by rw[xb];intro a b q;exact v a b Fi
 constructor
 .unfold results;rw[cJ];refine(eC (λw=>Result.andThen w _) (Eq.trans ?_ g)).trans ?_
  .congr 2
  simp
 intro b q;have C:b∈(fn.results.mapM (ie e)).events P d #[]:=by unfold results at q;rw[aD]at q;change b∈((fn.results.mapM (ie e)).run P d).evThen ((fn.results.mapM (ie e)).events P d #[]) _ at q;rw[g]at q;simpa using q
 grind
section
variable {p:af P}
def tu(h:m (Nat×cq))(e:m ResultVar)(b:m Nat)(g:bH)(a:y):Option (m Prop):=
 match pz h g e with
 |some d=>match pp d with
  |some i=>match hR (c b) a with
   |true=>kk i (fg b a)
   |false=>n
  |none=>n
 |none=>n
def g.b9(aV:b0 P ac){fn}{d}{res}(aT)(e:tu ac fn.results.toList aT F res=f Z)(o:T Z)(m:dy aT k=f aq)(j:l0 aq=l)(i:ff aT=l)(h:∀b,b<d->aT[b]?=f b):
  g p D (k0 P fn d res aq) (.code .ret::av) .normal F k:=by refine g.ret ⟨.inl a,aT,?_⟩;unfold tu at e;grind[oW.fb]
def X.bx{i}{fn}{args}{res}(h:P.funcs[i]?=f fn)(e:(fn.name== "runtime.NumGoroutine")=u)(d:fn.body=f q)(m:ay args.length fn.ntmps=l)(o:kx args k->g p fn.ntmps (k0 P fn k.length res aq) [.code q] .normal (h6 0 args) k):X p i args k res aq:=by refine⟨⟨fn,h,e,by grind⟩,λj A b a=>?_⟩;have:=bk.hl (p:=p) (ι:=Unit) (aq:=λ_=>aq) (res:=λ_=>res) h e d (fl m) (b2.mono (g.aU (o ⟨j,A,b,a⟩)) λ_ _ _ r=>⟨(),r⟩);exact this.toX.2 j A b a
def bX.mk{fn}{d}{res}(aT)(e:pA fn.results.toList aT F res=f Z)(m:T Z)(j:dy aT k=f aq)(i:l0 aq=l)(h:ff aT=l)(g:∀b,b<d->aT[b]?=f b):bX fn d res aq .ret F k:=by refine⟨.inl a,aT,?_⟩;unfold pA at e;grind
end
def GP{t:af P}{i:aJ}{h}{w}{br}{E}(I:i.kind≠.early)(o:aF[e]?=f r)(W:aS r (yielded aF w.tmps)=l)(F:bc k b)(S:∀v,(ab w.eval r).run P v=.ok (.enter E A.toArray) v)(R:∀v,(ab w.eval r).events P v #[]=#[])(V:bk t E cR k res aP)(K:b4 k b A cR)(M:∀m s g,bv (aP m) g s (res m)->bc (aP m) g->de k b (aP m) g->cd t bq (G (i.N (w.put r.dst s) (.inRegion aF br::h)) ah) g):
  cd t bq (G (i.N w (.inRegion aF (e::br)::h)) ah) b:=by
 obtain⟨_,N⟩:=V;refine .next a λD U=>?_;have C:=t.bM U;have z:=F.rely C;have J:b4 k D A cR:=K.mono C.aH.ext F.len;refine⟨_,D,_,tB o W I (S D.a),?_,N _ A J z bq _ λm O s T y j d p=>?_⟩
 .refine⟨⟨k,k,z,z,.refl _ _⟩,dw.seen ?_⟩;rw[R];exact .nil
 refine uH (ah:=ah) (q:=i.N w (.inRegion aF (e::br)::h)) d y λQ x=>?_;have B:=qq (i:=i) (w:=w) (h:=h) aF e br s;rw[o]at B;simp only[n0]at B;rw[B];exact M m s Q (j.mono x.aH.ext d.len) (d.rely x) (C.aH.trans (p.trans x.aH))
def g.cK{t:af P}{Y:a2}(ae:bk t Y cR k res aP)(aH:r.guard=n)(o:r.op=.call {callee:=.value cP,args:=ag,argTypes:=dt})(s:g3 (bE F cP)=f (Y,cap))(aB:lV (ag.toList.map (bE F)++fc cap) cR=f Z)(y:T Z)(H:fp D r.dst=l)(az:∀d,g t D be (.S all br::av) .normal (gf r.dst (res d) F) (aP d)):g t D be (.S all (r::br)::av) .normal F k:=by
 intro ai W q e aq M w ao idx i a C;cases idx with
 |nil=>exact a.elim
 |cons aJ idx=>
 obtain⟨E,a⟩:=a;have ah:=eQ q cP;unfold g3 at s;split at s
 case h_2=>cases s
 case h_1 u9 uU he=>
  cases s;rw[he]at ah;have aa:=b8 ah;generalize V:W.eval cP=aw at aa;cases aa with
  |fn z b J m au x ax A aF R=>
   have O:z=[]:=jD J;subst O;have aC:b4 k ai b (fc cap):=qi (λd ar I=>⟨x d,A d N,R d ar I⟩) m;have aE:b4 k ai (ag.toList.map W.eval++b) cR:=ta aB y ((m5 (eQ q) ag.toList).append aC);obtain⟨fn,aj,ab,X⟩:=ae.1;refine GP i E (i5 aH) e (λU=>(mL o aj ab X V U).1) (λU=>(mL o aj ab X V U).2) ae aE λd aK S K j h=>?_;refine az d S _ ?_ j aq M w ao idx i a λan Q G v aD f3 B p=>C an Q G v aD f3 B (h.trans p);have al:=k_ H;cases aI:r.dst with
   |none=>exact q.mono h e.len
   |some aG=>exact(q.mono h e.len).put (al aG aI) K
def Mj{k:Type}{d}{C}:∀{a:m Nat}{e h:m k},dy a e=f h->d∉a->dy a (e.set d C)=f h
 |[],e,h,b,_=>b
 |o::a,e,h,b,i=>by
  simp[fa,not_or]at i;simp[dy,lg]at b⊢;rw[kB i.1];cases g:e[o]? with
  |none=>simp[g]at b
  |some q=>
   simp[g]at b⊢;cases j:dy a e with
   |none=>simp[j]at b
   |some p=>rw[Mj j i.2];simp only[j]at b;exact b
def KJ{h}{d}(b:eg h d=u):h∉d:=λa=>by rw[vA a]at b;cases b
def yR:Option (Tmp×E1)->m ResultVar
 |none=>[]
 |some a=>[.tmp a.1]
def K4(a:m Q):Option (Tmp×E1)->y
 |none=>.n (.agg a)
 |some b=>.Q [.agg a,b.2]
def un(w:m (Nat×cq))(fn:Func)(x:Nat)(b:y)(h:m an):fB:=λs r d=>
 (s=.ret∨s=.normal)/\∃a o v e t j g i,∃p:Option (Tmp×E1),(∀q,p=f q->look r q.1=.n q.2)/\fn.results.toList=.cell t j::yR p/\b1 w j=f g/\g.agg=l/\c e=g.size/\look r t=aH o 0/\d[o]?=f (.cells v e)/\o∉a /\
  kk (K4 e p) (fg a b)=f i/\T i/\hR (c a) b=l/\dy a d=f h/\l0 h=l/\ff a=l/\(∀k,k<x->a[k]?=f k)
def bk.jN{p:af P}(aV:b0 P ac){a1}{fn}{args}{aq:ι->m an}(rG:P.funcs[a1]?=f fn)(aN:(fn.name== "runtime.NumGoroutine")=u)(cU:fn.body=f q)(bO:args.length<=fn.ntmps)(a3:∀b b7,bZ fn.ntmps k b (h6 0 args) b7->bc k b->∀i b_ S (aW:ai->a5->Prop),i.kind≠.early->i.roundOf=n ->
  (∀B ae J az aZ,(∃s,un ac fn (c k) (res s) (aq s) B ae J)->bZ fn.ntmps J az ae aZ->bc J az->de k b J az->kG p aW i b_ S B aZ az)->cd p aW (G (i.N b7 (.code q::b_)) S) b):bk p a1 args k res aq:=by
 refine⟨⟨fn,rG,aN,by rw[cU];rfl⟩,λb A bQ bL aW S bI=>?_⟩;obtain⟨bN,bK⟩:=b4.get bQ;let i:aJ:={fn:=a1,tmps:=#[],todo:=[],defers:=[],mode:=.run,kind:=.normal,roundOf:=n}
 have ca:Frame.enter P a1 A.toArray .normal=i.N {tmps:=A.toArray++Array.replicate (fn.ntmps-A.toArray.size) I,defers:=[]} [.code q]:=NU;rw[ca];refine a3 b {tmps:=A.toArray++Array.replicate (fn.ntmps-A.toArray.size) I,defers:=[]} ⟨by simp;omega,⟨[],v⟩,λaH=>?_⟩ bL i [] S aW (by simp[i]) rfl ?_
 .rw[yE];simp only[g1,dH,sq];have:=bK aH;rcases dW aH (c A) with b9|b8
  .have B:(A.toArray++Array.replicate (fn.ntmps-A.toArray.size) I).getD aH I=(A[aH]?).getD I:=FY;rw[B];exact this
  rw[wZ x];trivial
 .rintro B ae aK e kz ⟨aj,V,aT,d,W,aG,aH,ty,it,Z,r,bS,aR,aS,tp,D7,bT,bd,bU,bC,bD,bE,a4,a7,bG,cj⟩ f0 K bf;obtain⟨a6,a8⟩:=Ly a7;have Q:=f0.al aH;rw[bT]at Q;obtain⟨_,L,dT,D,a_,aO⟩:=Q;obtain⟨cc,z,a9,cb,b5,ck⟩:=K.box d _ L bd D;subst a9;cases a_;let cf:Mem:=λy r=>if y=dT then z[r]? else e.u y r;have bp:∀r t,z[r]?=f t->e.a.cell? ⟨dT,r,n⟩=f t:=λr t bP=>by simpa[aL,cb]using bP
  have aC:∀y r t,e.u y r=f t->cf y r=f t:=λy r t X=>by grind
  have au:∀y r t,cf y r=f t->e.a.cell? ⟨y,r,n⟩=f t:=λy r t X=>by
   by_cases B:y=dT
   .grind
   simp[cf,B,dm]at X;exact K.mem y r t X
  obtain⟨U,H⟩:=K.b8 (cf:=cf) (bj:=e.a) (ea:=.J) (ct:=⟨.pointer (f ⟨dT,0,n⟩),[]⟩) bd D rfl (bB _) (λ_ _ _=>rfl) (λy _ aM r=>by grind) aC au E rfl rfl rfl v
  have al:e3 e ⟨e.s.set d ⟨.pointer (f ⟨dT,0,n⟩),[]⟩,cf,e.a,e.own⟩:=⟨rfl,aC,λy aM r=>by
   have:y≠dT:=by rintro rfl;exact aM _ (b' D) E
   simp[cf,this,dm],au,λy aM=>by grind⟩
  have bz:bZ fn.ntmps (aK.set d .J) ⟨e.s.set d ⟨.pointer (f ⟨dT,0,n⟩),[]⟩,cf,e.a,e.own⟩ ae kz:=⟨f0.size,f0.defers.imp λ_ bA=>bA.mono H.ext,λF=>(f0.al F).mono H.ext K.len⟩
  have ag:=Mj (C:=an.J) a4 bU;have aP:bM (aK.set d .J) ⟨e.s.set d ⟨.pointer (f ⟨dT,0,n⟩),[]⟩,cf,e.a,e.own⟩ z aG:=b5.mono H.ext K.len;have bX:=bf.trans (H.too1 K);let bo:Y:=match r with|none=>.agg z.toArray|some bb=>.tuple #[.agg z.toArray,kz.tmps.getD bb.1 I]
  have b3:∀M,(∀i r F,cf i r=f F->M.cell? ⟨i,r,n⟩=f F)->(results fn kz.tmps).run P M=.ok bo M/\∀B∈(results fn kz.tmps).events P M #[],∃i r F,B=⟨.cell ⟨i,r,n⟩,u,u⟩/\cf i r=f F:=by
   intro M aQ;have bq:=aV ty it aS;have aE:c z=it.size:=by rw[b5.cL,D7]
   have ar:∀s t,z[s]?=f t->M.cell? ⟨dT,0+s,n⟩=f t:=λs t w=>aQ _ _ _ N;have a:=run_loadCells_list (P:=P) M ⟨dT,0,n⟩ z (λs t w=>by rw[g2];exact ar s t w);rw[aE]at a;have aB:(loadVar ty ⟨dT,0,n⟩).run P M=.ok (.agg z.toArray) M:=by simp[loadVar,cJ,bq.ey,c8,tp];simp[bq.a_,a]
   have b6:fn.results=(ResultVar.cell aH ty::yR r).toArray:=by apply Array.ext';simpa using aR
   have b2:asAddr (kz.tmps[aH]?.getD I)=(pure ⟨dT,0,n⟩:Sem Addr):=by rw[<-hu,aO];rfl
   refine⟨by cases r<;>simp[results,b6,b2,aB,bo,yR],λB V=>?_⟩;have a':B∈(loadVar ty ⟨dT,0,n⟩).events P M #[]:=by cases r<;>simpa[results,b6,b2,aB,yR]using V
   obtain⟨s,w,rfl⟩:=pa bq (M:=M) (j:=c z) (λs w=>⟨_,ar s z[s] (bF w)⟩) (by rw[tp,aE];simp) B a';exact⟨dT,0+s,z[s],rfl,by grind⟩
  have fin:∀o g,cV (⟨e.s.set d ⟨.pointer (f ⟨dT,0,n⟩),[]⟩,cf,e.a,e.own⟩:a5) g->o.fn=a1->o.tmps=kz.tmps->o.defers=kz.defers->o.mode=.returning->o.kind=.normal->cd p aW (G o S) g:=by
   intro o g h bt bu bw a0 bx;have a2:=bz.rely h U;have aU:=U.rely h;have ab:=bX.trans h.aH;have bV:bv (aK.set d .J) g bo (K4 aG r):=by
    have aD:=aP.mono h.aH.ext U.len;cases r with
    |none=>exact⟨z,rfl,aD⟩
    |some bb=>
     have ba:=a2.al bb.1;rw[bS bb rfl]at ba;exact⟨[.agg z.toArray,kz.tmps.getD bb.1 I],rfl,⟨z,rfl,aD⟩,ba,v⟩
   obtain⟨ah,bn⟩:=vZ (kJ:=g.s) ag aU.len;have bW:=(pq bC bD bV).sub ag bn bE;obtain⟨cg,bs⟩:=l1 ag;obtain⟨d1,d2⟩:=l1 bn;have br:∀L∈ah,L∈g.s:=El bn;have av:bc (aq aj) {g with s:=ah}:=by obtain⟨T,_⟩:=aU.sub ag bn a6 bG;refine⟨T.mem,T.len,λs bm L aI D=>?_,T.a1,T.lt,λi cU=>⟨(aU.own i cU).1,λL D=>(aU.own i cU).2 L (br L D)⟩⟩;exact ez.plain (k:=aq aj) (b:={g with s:=ah,own:=oE g ah}) (az:={g with s:=ah}) rfl rfl (vQ a6 bm (b' aI)) (T.box s bm L aI D)
   have bg:de k b (aq aj) {g with s:=ah}:=by refine⟨ab.size,ab.aV,ab.mem,ab.bz,λL D i cU=>ab.bN _ (br L D) i cU,λd bm L aI D=>?_,ab.os,ab.tape,ab.output,ab.own⟩;have bN:d<c k:=(cO.1 aI).1;obtain⟨ea,ct,cl,cm,cn⟩:=ab.box d bm L aI D;grind
   obtain⟨bR,ax⟩:=a2.defers;refine A9 bR o g _ aU.d' N a0 (by rw[bw];exact ax.gI aU) λaa R=>?_;have O:cV {g with s:=ah} {aa with s:=ah}:=by
    refine⟨rfl,R.u,R.own,R.size,λi cU=>R.aV i (cU.imp id ?_),R.mem,R.os,R.tape,R.output⟩;rintro⟨L,D,cU⟩;obtain⟨s,w,rfl⟩:=g6 D;have aw:s<c aT:=by rw[<-d1];exact w
    obtain⟨cp,bl,b1⟩:=d2 s _ (bF aw);obtain⟨C,bY,bh⟩:=bs s _ (bF aw);rw[bF w]at bl;cases bl;refine⟨_,_,b1,λbJ=>?_,cU⟩;rw[ax.e6 _ bJ]at bh;cases bh;exact vC a8 _ (b' bY) rfl
   have bH:e3 aa {aa with s:=ah}:=⟨rfl,λ_ _ _ a3=>a3,λ_ _ _=>rfl,λi r t X=>R.mem i r t (by rw[<-R.u];exact X),λi cU=>cU.imp id λ⟨L,D,cU⟩=>⟨L,by rw[R.s];exact br L D,cU⟩⟩
   have ao:g.u=cf:=h.u;refine .aS bH (bI aj _ bo _ ⟨bt,a0,rfl,bx,fn,by grind,λM aQ=>?_⟩ (bW.mono O.aH.ext av.len) (av.rely O) (bg.trans O.aH));show(results fn o.tmps).run P M=_/\∀B∈(results fn o.tmps).events P M #[],_;rw[bu];have aF:∀i r F,cf i r=f F->M.cell? ⟨i,r,n⟩=f F:=λi r F a3=>aQ i r F (by show aa.u i r=f F;rw[R.u,ao];exact a3);refine⟨(b3 M aF).1,λB V=>?_⟩;obtain⟨i,r,F,aR,aS⟩:=(b3 M aF).2 B V;exact⟨i,r,F,aR,by show aa.u i r=f F;rw[R.u,ao];exact aS⟩
  rcases V with rfl|rfl
  .intro pre;exact .aS al (.ctl U rfl (λ_=>Ep rfl) λg h=>fin _ g h rfl rfl (hL _) rfl rfl)
  exact .aS al (.ctl U rfl (λ_=>En rfl) λg h=>fin _ g h rfl rfl (hL _) rfl rfl)
def bk.bx{p:af P}(aV:b0 P ac){i}{fn}{args}{aq:ι->m an}(t:P.funcs[i]?=f fn)(s:(fn.name== "runtime.NumGoroutine")=u)(b:fn.body=f q)(C:ay args.length fn.ntmps=l)(D:kx args k->g p fn.ntmps (λB w h=>∃v,un ac fn k.length (res v) (aq v) B w h) [.code q] .normal (h6 0 args) k):bk p i args k res aq:=by refine⟨⟨fn,t,s,by rw[b];rfl⟩,λe A d a=>?_⟩;have:=bk.jN (p:=p) (aq:=aq) (res:=res) aV t s b (fl C) λI y i o z E j x r _ F=>(show b2 p fn.ntmps q _ (h6 0 args) k from g.aU (D ⟨e,A,d,a⟩)) I y i o z E j x r F;exact this.2 e A d a
def bM.set{k}{b}{i}{aa}:∀{A:m Y}{a:m Q}{h:Nat},bM k b A a->A[h]?=f aa->cB k b aa i->bM k b A (a.set h i)
 |[],[],_,_,d,_=>by grind
 |[],_::_,_,d,_,_=>d.elim
 |_::_,[],_,d,_,_=>d.elim
 |o::A,j::a,0,d,e,g=>by simp at e;subst e;exact⟨g,d.2⟩
 |o::A,j::a,h+1,d,e,g=>⟨d.1,bM.set d.2 N g⟩
section
variable {p:af P}
def g.ck(d t)(W h)(b:Nat->m O){eP}{ah}{gl}{ar:Nat->m O}(B:c' d k=f (.cells eP ah))(z:c' t ah=f (.c (.R l gl 0 ar)))(C:g p D be (.code q::av) .normal F ((k++[an.w W h 0 b]).set d (.cells eP (ah.set t (.w (c k) h 0 b))))):g p D be (.code q::av) .normal F k:=by
 refine g.aS (λe az K bO=>?_) C;have aI:=er B;have X:=er z;have G:d<c k:=(cO.1 aI).1;have ai:d<c e.s:=h2;have I:=bF ai;generalize e.s[d]=L at I;obtain⟨v,A,au,Z,S,U⟩:=bO.box d _ L aI I;obtain⟨i,Y,V⟩:=S.get X;have j:Rd e.u i (.R l h 0 b):=(Rd.fS (h:=gl) (gl:=h) (.inr a) V).cB λR ae=>by omega
 have ao:ez (k++[an.w W h 0 b]) {e with s:=e.s++[⟨i,[]⟩]} (.w W h 0 b) ⟨i,[]⟩:=⟨j.en,.inl ⟨⟨rfl,rfl⟩,j⟩⟩;obtain⟨H,M⟩:=bO.bX (.refl _ _) rfl bO ao E
 have y:(k++[an.w W h 0 b])[d]?=f (.cells eP ah):=N;have al:(e.s++[(⟨i,[]⟩:Loc)])[d]?=f L:=N;have ag:(e.s++[(⟨i,[]⟩:Loc)]).set d L=e.s++[⟨i,[]⟩]:=mX;have aw:fP (.cells eP ah) L (.cells eP (ah.set t (.w (c k) h 0 b))) L:=rfl;have ax:c k≠d:=x;have ab:ez ((k++[an.w W h 0 b]).set d (.cells eP (ah.set t (.w (c k) h 0 b)))) ⟨(e.s++[(⟨i,[]⟩:Loc)]).set d L,e.u,e.a,e.own⟩ (.cells eP (ah.set t (.w (c k) h 0 b))) L:=by
  rw[ag];refine⟨v,A,au,Z,?_,U⟩;have w:fv (k++[an.w W h 0 b]) {e with s:=e.s++[⟨i,[]⟩]} ((k++[an.w W h 0 b]).set d (.cells eP (ah.set t (.w (c k) h 0 b)))) {e with s:=e.s++[⟨i,[]⟩]}:=by
   refine⟨λ_ _ _ r=>r,λR bS ct Q lO=>?_⟩;by_cases aB:d=R
   .grind
   exact Fv
  have aa:bM (k++[an.w W h 0 b]) {e with s:=e.s++[⟨i,[]⟩]} A ah:=S.mono M.ext bO.len;refine bM.set (aa.mono w H.len) Y ?_;refine⟨j.en,by simp,λT af aj kH r=>?_⟩;rw[kB x,hn x,sx]at r;cases r;refine⟨bB _,λ_=>⟨⟨i,[]⟩,?_,a⟩⟩;exact t0
 obtain⟨aM,J⟩:=H.b8 (cf:=e.u) (bj:=e.a) (ct:=L) y al aw (bB _) (λ_ _ _=>rfl) (λ_ _ _ _=>rfl) (λ_ _ _ r=>r) bO.mem (λv s=>⟨.inl s,bO.lt L (b' I) v s⟩) rfl rfl rfl ab;have o:=M.trans J;exact⟨⟨(e.s++[(⟨i,[]⟩:Loc)]).set d L,e.u,e.a,e.own⟩,a,⟨K.size,K.defers.imp λ_ j=>j.mono o.ext,λaq=>(K.al aq).mono o.ext bO.len⟩,aM,o⟩
end
section
variable {p:af P}
def g.e9(o)(W h)(dJ:Nat->m O){e}{s:Nat->m O}(v:look F o=ax (.R l e 0 s))(i:g p D be (.code q::av) .normal ((o,cD (c k) (.R 0 h 0 0))::F) (k++[.p W h 0 dJ])):g p D be (.code q::av) .normal F k:=by
 refine g.aS (λj w a bO=>?_) i;have B:=a.al o;rw[v]at B;obtain⟨t,b⟩:=bO.bX (bS:=.p W h 0 dJ) (L:=⟨.slice n 0 0,[]⟩) (.refl _ _) rfl bO (.inl ⟨rfl,rfl⟩) E;refine⟨{j with s:=j.s++[⟨.slice n 0 0,[]⟩]},rfl,⟨a.size,a.defers.imp λ_ d=>d.mono b.ext,λr=>?_⟩,t,b⟩;simp only[look];cases cU:ad o r with
 |false=>exact(a.al r).mono b.ext bO.len
 |true=>
  exact Oo
def g.ep(d t)(W h)(b:Nat->m O){eP}{ah}{B}{ai:Nat->m O}(z:c' d k=f (.cells eP ah))(x:c' t ah=f (.c (.R l B 0 ai)))(C:g p D be (.code q::av) .normal F ((k++[an.p W h 0 b]).set d (.cells eP (ah.set t (.K (c k) (.R 0 h 0 0)))))):g p D be (.code q::av) .normal F k:=by
 refine g.aS (λe aq J bO=>?_) C;have aI:=er z;have T:=er x;have H:d<c k:=(cO.1 aI).1;have ae:d<c e.s:=h2;have I:=bF ae;generalize e.s[d]=L at I;obtain⟨r,A,al,X,M,R⟩:=bO.box d _ L aI I;obtain⟨au,V,S⟩:=M.get T;let i:Loc:=⟨.slice n 0 0,[]⟩
 obtain⟨K,G⟩:=bO.bX (bS:=.p W h 0 b) (L:=i) (.refl _ _) rfl bO (.inl ⟨rfl,rfl⟩) N;have Q:(k++[an.p W h 0 b])[d]?=f (.cells eP ah):=N;have af:(e.s++[i])[d]?=f L:=N;have ab:(e.s++[i]).set d L=e.s++[i]:=mX;have y:fP (.cells eP ah) L (.cells eP (ah.set t (.K (c k) (.R 0 h 0 0)))) L:=rfl;have aa:ez ((k++[an.p W h 0 b]).set d (.cells eP (ah.set t (.K (c k) (.R 0 h 0 0))))) ⟨(e.s++[i]).set d L,e.u,e.a,e.own⟩ (.cells eP (ah.set t (.K (c k) (.R 0 h 0 0)))) L:=by
  rw[ab];refine⟨r,A,al,X,?_,R⟩;have s:fv (k++[an.p W h 0 b]) {e with s:=e.s++[i]} ((k++[an.p W h 0 b]).set d (.cells eP (ah.set t (.K (c k) (.R 0 h 0 0))))) {e with s:=e.s++[i]}:=by
   refine⟨λ_ _ _ v=>v,λZ bS L ao aj=>?_⟩;by_cases ar:d=Z
   .grind
   exact⟨bS,L,by grind,aj,.refl _ _⟩
  have Y:bM (k++[an.p W h 0 b]) {e with s:=e.s++[i]} A ah:=M.mono G.ext bO.len;exact bM.set (Y.mono s K.len) V (DI (W:=W) (U:=b) S N (by simp[<-bO.len,i]))
 obtain⟨aM,E⟩:=K.b8 (cf:=e.u) (bj:=e.a) (ct:=L) Q af y (bB _) (λ_ _ _=>rfl) (λ_ _ _ _=>rfl) (λ_ _ _ v=>v) bO.mem (λr o=>⟨.inl o,bO.lt L (b' I) r o⟩) rfl rfl rfl aa;have j:=G.trans E;exact⟨⟨(e.s++[i]).set d L,e.u,e.a,e.own⟩,a,⟨J.size,J.defers.imp λ_ w=>w.mono j.ext,λag=>(J.al ag).mono j.ext bO.len⟩,aM,j⟩
end
def hD:Nat->(Nat->m O)->Nat->m O
 |0,a=>a
 |b+1,a=>fF (b+1) a
def yT(r)(a:Nat->m O)(e):hD r a e=a (r+e):=by cases r<;>simp[hD,fF]
def xN(h g j:Nat)(b:Nat->m O)(a:Q):Option (Q×m Prop):=match lT h a with
 |true=>f (a,[])
 |false=>match a with
  |.K e (.R o d k i)=>match ad e h,ad d g with
   |true,l=>f (.c (.R u g i (hD k b)),[o=j,k+i<=j])
   |_,_=>n
  |_=>n
def xP(g e h:Nat)(a:Nat->m O):m Q->Option (m Q×m Prop)
 |[]=>f ([],[])
 |i::o=>match xN g e h a i with
  |some (b,j)=>match xP g e h a o with
   |some (d,k)=>f (b::d,gN j k)
   |none=>n
  |none=>n
def uX(h g i:Nat)(b:Nat->m O):E1->Option (E1×m Prop)
 |.ar d=>match xN h g i b d with|some (d,e)=>f (.ar d,e)|none=>n
 |.agg a=>match xP h g i b a with|some (a,e)=>f (.agg a,e)|none=>n
def xO(g e h:Nat)(a:Nat->m O):m E1->Option (m E1×m Prop)
 |[]=>f ([],[])
 |i::o=>match uX g e h a i with
  |some (b,j)=>match xO g e h a o with
   |some (d,k)=>f (b::d,gN j k)
   |none=>n
  |none=>n
def uW(h g i:Nat)(b:Nat->m O):y->Option (y×m Prop)
 |.n e=>match uX h g i b e with|some (e,d)=>f (.n e,d)|none=>n
 |.Q a=>match xO h g i b a with|some (a,d)=>f (.Q a,d)|none=>n
 |.any=>f (.any,[])
section
variable {aP:m an}{b5:a5}{W h:Nat}
structure mZ(aP:m an)(W h j:Nat)(U:Nat->m O)(b b5:a5):Prop where
 aV:∀aa w,cB (aP++[.p W h j U]) b aa w->lT (c aP) w=l->cB aP b5 aa w
 e0:∀aa gl r z,cB (aP++[.p W h j U]) b aa (.K (c aP) (.R j gl r z))->gl=h->r+z<=j->Rd b5.u aa (.R u h z (hD r U))
def mZ.cC(m:mZ aP W h j U b b5){aa}{w i}{Z}(g:xN (c aP) h j U w=f (i,Z))(p:T Z)(o:cB (aP++[.p W h j U]) b aa w):cB aP b5 aa i:=by
 unfold xN at g;split at g
 .rename_i q;cases g;exact m.aV aa w o q
 split at g
 .rename_i t B s r z _;split at g
  .rename_i d e;cases g;have d:=dn d;have e:=dn e;subst d e;obtain⟨rfl,k⟩:B=j/\r+z<=j:=p;exact m.e0 aa _ _ _ o a k
  grind
 grind
def mZ.fu(o:mZ aP W h j U b b5):∀{A:m Y}{d a:m Q}{e:m Prop},xP (c aP) h j U d=f (a,e)->T e->bM (aP++[.p W h j U]) b A d->bM aP b5 A a
 |[],[],_,_,g,_,_=>by cases g;trivial
 |[],_::_,_,_,_,_,i=>i.elim
 |_::_,[],_,_,_,_,i=>i.elim
 |v::A,r::d,a,e,g,k,i=>by
  simp[xP]at g;split at g
  .rename_i p s cQ;split at g
   .rename_i q t dr;cases g;rw[T.X]at k;exact⟨o.cC cQ k.1 i.1,o.fu dr k.2 i.2⟩
   grind
  grind
def mZ.n(k:mZ aP W h j U b b5){e i}(a:uX (c aP) h j U e=f (i,Z))(g:T Z)(m:eA (aP++[.p W h j U]) b aa e):eA aP b5 aa i:=by
 cases e with
 |ar s=>
  simp[uX]at a;split at a
  .rename_i d r cQ;cases a;exact k.cC cQ g m
  grind
 |agg o=>
  simp[uX]at a;split at a
  .rename_i d r cQ;cases a;obtain⟨A,q,p⟩:=m;exact⟨A,q,k.fu cQ g p⟩
  grind
def mZ.g7(o:mZ aP W h j U b b5):∀{A:m Y}{d a:m E1}{e:m Prop},xO (c aP) h j U d=f (a,e)->T e->eX (aP++[.p W h j U]) b A d->eX aP b5 A a
 |[],[],_,_,g,_,_=>by cases g;trivial
 |[],_::_,_,_,_,_,i=>i.elim
 |_::_,[],_,_,_,_,i=>i.elim
 |v::A,r::d,a,e,g,k,i=>by
  simp[xO]at g;split at g
  .rename_i p s cQ;split at g
   .rename_i q t dr;cases g;rw[T.X]at k;exact⟨o.n cQ k.1 i.1,o.g7 dr k.2 i.2⟩
   grind
  grind
def mZ.c'(i:mZ aP W h j U b b5){d q}(a:uW (c aP) h j U d=f (q,Z))(g:T Z)(k:bv (aP++[.p W h j U]) b aa d):bv aP b5 aa q:=by
 cases d with
 |n d=>
  simp[uW]at a;split at a
  .rename_i e p cQ;cases a;exact i.n cQ g k
  grind
 |Q r=>
  simp[uW]at a;split at a
  .rename_i e p cQ;cases a;obtain⟨A,o,m⟩:=k;exact⟨A,o,i.g7 cQ g m⟩
  grind
 |any=>cases a;trivial
def bc.e0(o:bc (aP++[.p W h j U]) b)(av:ki (c aP) aP=l):
  ∃z:a5,bc aP z/\e3 b z/\mZ aP W h j U b z/\∀{s:m an} {R:a5},de s R (aP++[.p W h j U]) b->s.length<=c aP->de s R aP z:=by
 have aI:(aP++[an.p W h j U])[c aP]?=f (.p W h j U):=E;have G:c b.s=c aP+1:=by rw[o.len];simp
 have X:b.s[c aP]?=f b.s[c aP]:=bF x;generalize b.s[c aP]=L at X;have aH:=o.box _ _ L aI X;obtain⟨cf,aj,O,y,aB⟩:∃cf:Mem,(∀i d g,b.u i d=f g->cf i d=f g)/\(∀i,i∉L.ab->∀d,cf i d=b.u i d)/\(∀i d g,cf i d=f g->b.a.cell? ⟨i,d,n⟩=f g) /\
   (∀g e d B,cB (aP++[.p W h j U]) b g (.K (c aP) (.R j e d B))->e=h->d+B<=j->Rd cf g (.R u h B (hD d U))):=by
  rcases aH with⟨rfl,rfl⟩|⟨i,aC,A,aN,rfl,bq,aQ,ac,D,H,aF⟩
  .refine⟨b.u,λ_ _ _ aE=>aE,λ_ _ _=>rfl,o.mem,λg e d B M F aa=>?_⟩;obtain⟨ae,⟨aq,Z,S,aC,J,T,ab,az,au,aw⟩,_,al⟩:=M;grind[Rd.dK]
  let cf:Mem:=λr d=>if r=i then A[d]? else b.u r d;have ao:∀r d g,b.u r d=f g->cf r d=f g:=λr d g J=>by grind
  refine⟨cf,ao,λr aO d=>N,λr d g J=>?_,λg e d B M F aa=>?_⟩
  .by_cases F:r=i
   .subst F;simp[cf,dH]at J;simp[aL,bq];grind
   simp[cf,F,dm]at J;exact o.mem r d g J
  subst F;obtain⟨ae,⟨aq,Z,S,aD,J,T,ab,az,au,aw⟩,_,al⟩:=M;obtain⟨ct,Y,ar⟩:=(al _ _ _ _ aI).2 rfl;rw[X]at Y;cases Y;rw[au]at ar;cases ar;rw[J];have Q:∀q,q<B->∀w C,(hD d U q)[w]?=f C->∃ah,A[(d+q)*e+w]?=f ah/\Rd b.u ah C:=λq t w C p=>by rw[yT]at p;exact H.rd (d+q) x w C p
  refine .R i (d*e) (λq w=>(A[(d+q)*e+w]?).getD I) T x E (λq t=>by rw[yT];exact H.bD _ x) (λaG=>N) (λq t w C p=>N) (λq t w C p=>?_);obtain⟨ah,ax,aM⟩:=Q q t w C p;rw[ax];exact aM.mono ao
 have aJ:(aP++[an.p W h j U]).set (c aP) .J=aP++[.J]:=E;obtain⟨ai,K⟩:=o.b8 (cf:=cf) (bj:=b.a) (ea:=.J) (ct:=⟨L.v,[]⟩) aI X v (bB _) (λ_ _ _=>rfl) (λi _ k d=>O i k d) aj y E rfl rfl rfl v;rw[aJ]at ai K;have af:=ai.drop (br:=[.J]) av;refine⟨_,af,⟨a,aj,λi k d=>O i (k L (b' X)) d,y,λi k=>?_⟩,⟨λg aq M aK=>?_,λg e d B M F aa=>aB g e d B M F aa⟩,λ{s R} ag V=>(ag.trans (K.too1 o)).drop (br:=[.J]) V⟩
 .rcases k with k|⟨ct,Y,k⟩
  .exact .inl k
  have:=g0 Y;grind
 exact(M.mono K.ext o.len).drop (br:=[.J]) aK
end
def bk.bL{C:af P}{D}{args}{b:ι->y}{aP:ι->m an}{W h}{j:ι->Nat}{U:ι->Nat->m O}(E:bk C D args k res (λa=>aP a++[.p W h (j a) (U a)])){i:ι->m Prop}(M:∀a,uW (c (aP a)) h (j a) (U a) (res a)=f (b a,i a))(K:∀a,T (i a))(J:∀a,ki (c (aP a)) (aP a)=l)(I:∀a,c k<=c (aP a)):bk C D args k b aP:=by refine⟨E.1,λN A x v F r t=>E.2 N A x v F r λa s R Q w d g B=>?_⟩;obtain⟨z,o,e,p,q⟩:=g.e0 (J a);exact .aS e (t a s R z (w.mono e.mem) (p.c' (M a) (K a) d) o (q B (I a)))
def X.bL{P:aE}{b:af P}{d}{args}{k}{res a}{aP}{W h j}{U:Nat->m O}(p:X b d args k res (aP++[.p W h j U])){Z}(o:uW (c aP) h j U res=f (a,Z))(i:T Z)(g:ki (c aP) aP=l)(e:c k<=c aP):X b d args k a aP:=
 (bk.bL (ι:=Unit) p.tocH (λ_=>o) (λ_=>i) (λ_=>g) (λ_=>e)).toX
section
def Ym{b:ae}(s:r.op=.call {callee:=.builtin .clear,args:=#[b],argTypes:=#[o]})(a:ae->Y):
  ab a r=(do pure (.value (<-Builtin.clear_ #[o] r.type #[a b]))):=RH
def aeu{a:Y}{b}{h}(k:a.cells.toList.map k3=b.map f)(e:c b=h):e9 bA h z (λ_=>b) (Builtin.zeroCells a.cells z).toList:=by
 have j:a.cells.size=h:=by have:=eC List.length k;grind
 have r:bM [] ⟨[],bA,default,λ_=>False⟩ a.cells.toList (b.map Q.c):=ul k;refine⟨by simp[Builtin.zeroCells,j],λ_ _=>e,λg d t o B=>?_⟩;have y:t<h:=N;obtain⟨i,v,s⟩:=r.get (t:=t) (w:=Q.c o) N;refine⟨i,?_,s⟩;have q:g*h+t<z*h:=by
  have:g*h+h<=z*h:=by rw[<-o3];exact g7 h d
  omega
 have m:(g*h+t) % h=t:=by grind[Nat.add_mul_mod_self_right,Nat.mod_eq_of_lt]
 have A:t<a.cells.size:=x;have C:a.cells[t]=i:=N;have p:a.cells[t]! = i:=N;simp[Builtin.zeroCells,j,q,m,p]
def a0.eZ(aV:b0 P ac){I:ae}(aQ:r.op=.call {callee:=.builtin .clear,args:=#[I],argTypes:=#[o]}){e}(T:b1 ac o=f e)(aL:e.desc=.slice W)(R:b1 ac W=f a4){b}{y}(aa:η I=cD d (.R j a4.size b z))(q:k[d]?=f (.p y a4.size j U))(al:b+z<=j):
  a0 P r η k .any (k.set d (.p y a4.size j (nM b (b+z) a4.zero U))):=by
 intro s aj p X;have m:=X I;rw[aa]at m;change cB k s (aj I) (.K d _)at m;obtain⟨aS,⟨au,aN,ax,aP,Z,aB,aC,aE,aM,aJ⟩,_,G⟩:=m;obtain⟨L,J,ag⟩:=(G _ _ _ _ q).2 rfl;rw[aM]at ag;have B:=(aV o e T).eO;rw[aL]at B;rw[Ym aQ,Z];by_cases V:z=0
 .subst V;have ab:nM b (b+0) a4.zero U=U:=by funext t;simp only[nM];grind
  have Y:k.set d (.p y a4.size j U)=k:=mX;rw[ab,Y];refine⟨.value (.tuple #[]),s,?_,v,p,.refl _ _,?_⟩
  .cases au<;>simp[Builtin.clear_,run_underlying B]
  intro i g;cases au<;>simp[Builtin.clear_,run_underlying B,aD]at g
 obtain⟨aw,rfl,rfl⟩:=aJ x;rcases p.box d _ L q J with⟨_,rfl⟩|⟨aO,g9,A,D,rfl,K,aI,av,aK,ar,an⟩
 .cases ag
 cases ag;obtain⟨aH,h,aq,aU,aW,ao,ai,aZ,a⟩:=(aV W a4 R).dc;have af:=aeu (bA:=s.u) (z:=z) ai a;have a1:=af.len;have aG:=ar.len;have aR:b*a4.size+z*a4.size<=j*a4.size:=by rw[<-jF];exact g7 _ al
 have C:=ar.hX af al;have S:(λe=>if b<=e/\e<b+z then(λ_=>a4.zero) (e-b)else U e)=nM b (b+z) a4.zero U:=rfl;rw[S]at C;obtain⟨ah,t2⟩:=p.gC q J aI av aK K C N an;have az:=af.cell;have M:=run_storeCells_at P aw (b*a4.size) y (Builtin.zeroCells h.cells z).toList 0 (A++D).toArray s.a K N az;have O:((A++D).toArray.toList.take (b*a4.size+0)++(Builtin.zeroCells h.cells z).toList++(A++D).toArray.toList.drop (b*a4.size+0+(Builtin.zeroCells h.cells z).toList.length))=A.take (b*a4.size)++(Builtin.zeroCells h.cells z).toList++A.drop (b*a4.size+(Builtin.zeroCells h.cells z).toList.length)++D:=N;rw[O]at M;have Q:∀w,(zeroValue W).run P w=.ok h w:=λw=>by simp[zeroValue,typeInfo,aq,ao]
 have H:∀w U,(zeroValue W).events P w U=U:=λw U=>by simp[zeroValue,typeInfo,aq,ao,aD]
 obtain⟨F,rfl⟩:∃F,z=F+1:=⟨z-1,by omega⟩
 refine⟨.value (.tuple #[]),_,?_,v,ah,t2,?_⟩
 .simp[Builtin.clear_,run_underlying B,Q,M]
 intro i g;have aT:i∈(storeCells ⟨aw,b*a4.size,n⟩ (Builtin.zeroCells h.cells (F+1)).toList).events P s.a #[]:=by simp only[Builtin.clear_,aD,j6,mf]at g;simpa[run_underlying B,Q,H,M]using g
 rcases ng (Builtin.zeroCells h.cells (F+1)).toList 0 (A++D).toArray s.a #[] K N az i aT with aF|⟨t,_,_,rfl⟩
 .grind
 exact og (b' J) E (an _)
end
section
variable {p:af P}
theorem g.hk{h}(K:∀e i,bZ D k e F i->bc k e->∃a:a5,a.a=e.a/\bZ D aq a h i/\bc aq a/\cN k e aq a)(N:g p D be (.S all br::av) .normal h aq):g p D be (.S all br::av) .normal F k:=by intro e i M b C w q B idx v d t;obtain⟨a,J,E,z,y⟩:=K e i M b;have A:=y.too1 b;refine .aS (.of b z J A) ?_;exact N a i E z C w q B idx v d λI m x o O r s j=>t I m x o O r s (A.trans j)
def g.dI(o)(W h)(dJ:Nat->m O){e}{r:Nat->m O}(t:look F o=ax (.R l e 0 r))(i:g p D be (.S all br::av) .normal ((o,cD (c k) (.R 0 h 0 0))::F) (k++[.p W h 0 dJ])):g p D be (.S all br::av) .normal F k:=by
 refine g.hk (λj v a bO=>?_) i;have B:=a.al o;rw[t]at B;obtain⟨s,b⟩:=bO.bX (bS:=.p W h 0 dJ) (L:=⟨.slice n 0 0,[]⟩) (.refl _ _) rfl bO (.inl ⟨rfl,rfl⟩) E;refine⟨{j with s:=j.s++[⟨.slice n 0 0,[]⟩]},rfl,⟨a.size,a.defers.imp λ_ d=>d.mono b.ext,λq=>?_⟩,s,b⟩;simp only[look];cases cU:ad o q with
 |false=>exact(a.al q).mono b.ext bO.len
 |true=>
  exact Oo
def g.eu(aV:b0 P ac){x:ae}{B t}(N:r.op=.binOp .eql o x (.const (.slice n B t)) ty){e}(E:b1 ac o=f e)(aj:e.desc=.slice W){eO}{h}(V:bE F x=ax (.R eO h j U))(X:r.guard=n)(O:fp D r.dst=l)(J:∀i:Bool,(i=l->j=0)->g p D be (.S all br::av) .normal (gf r.dst (ax (.bool i)) F) k):g p D be (.S all (r::br)::av) .normal F k:=by
 refine g.cE (ι:={i:Bool // i=l->j=0}) (λi=>ax (.bool i.1)) (λ_=>k) X O (λq M T C=>?_) λi=>J i.1 i.2;have w:=eQ T x;rw[V]at w;obtain⟨b,d,A,w,_,_,_,_,I⟩:=(b8 w).bY;have z:=(aV o e E).eO;rw[aj]at z;have S:=b8 (by have:=eQ T x;rw[V]at this;exact this);have ai:b.isNone=l->j=0:=by
  intro ag;rw[w]at S;cases S with
  |R i R al an aa ah af Z I m=>
   grind
 refine⟨⟨b.isNone,ai⟩,.value (.bool b.isNone),q,.bool b.isNone,?_,.inl a,Rd.bool,C,.refl _ _,?_⟩
 .have m:(binOp .eql o (.slice b j d) (.slice n B t)).run P q.a=.ok (.bool b.isNone) q.a:=Go.Lib.run_eql_slice_nil q.a o W b j d B t z;have K:∀y,eqGuard .eql o x y (.slice b j d) (.slice n B t)=pure ():=λy=>by simp[eqGuard]
  have v:M.eval (.const (.slice n B t))=.slice n B t:=rfl;simp[ab,N,w,v,K];simp[m]
 have Q:∀U,(Op.equal o (.slice b j d) (.slice n B t)).events P q.a U=U:=λU=>by show(aO (9999+1) o _ _).events P q.a U=U;unfold aO;cases b<;>simp[underlying,z]
 have m:(Op.equal o (.slice b j d) (.slice n B t)).run P q.a=.ok b.isNone q.a:=by show(aO (9999+1) o _ _).run P q.a=_;grind[Go.Lib.run_equalIn_slice_nil]
 have K:∀y,eqGuard .eql o x y (.slice b j d) (.slice n B t)=pure ():=λy=>by simp[eqGuard]
 have v:M.eval (.const (.slice n B t))=.slice n B t:=rfl;intro Y s;exfalso;simp[ab,N,w,v,K,binOp]at s;simp[m,Q,aD]at s
end
def fY(a:m UInt8):m Y:=a.map λb=>.int .u8 b.toNat
theorem Nk{ag}:c (fY ag)=c ag:=by simp[fY]
def adU{ag i}:fY (ag++i)=fY ag++fY i:=by simp[fY]
def jI(b:Option (Nat×Nat))(e:Nat):Y:=match b with|none=>.slice n 0 0|some (d,a)=>.slice (f ⟨d,0,n⟩) e a
def eL(r q:ao)(s:Bool)(h:Y)(i:Option (Nat×Nat))(b:m UInt8)(o:Nat):Y->(Nat->Option Obj)->Prop:=λp d=>
 ∃g,p=.pointer (f ⟨g,0,n⟩)/\dU h=l/\d g=f (.cells #[if s then p else .pointer n,h] r (0,0)) /\
 match i with
 |none=>b=[]/\∀e,(d e).isSome=l↔e=g
 |some (j,a)=>j≠g/\c b<=a/\0<a/\a<=9223372036854775807/\o<=c b/\(∃k,c (fY b++k)=a/\d j=f (.cells (fY b++k).toArray q (0,o)))/\∀e,(d e).isSome=l↔e=g∨e=j
section
variable {p:af P}{h:m (Nat×cq)}{ac:ao}{w:Bool}{v1:Y}{bN:Option (Nat×Nat)}{ag:m UInt8}{al:Nat}
structure mY(P:aE)(k:m an)(b:a5)(d:Nat)(ac W:ao)(w:Bool)(v1:Y)(bN:Option (Nat×Nat))(ag:m UInt8)(al:Nat)(L:Loc)(i:Nat)(cQ:Nat->Option Obj):Prop where
 s:b.s[d]?=f L
 v:L.v=.pointer (f ⟨i,0,n⟩)
 f':eL ac W w v1 bN ag al L.v cQ
 heap:∀(i:Nat) (r:Obj),cQ i=f r->b.a.heap[i]?=f r
 ab:∀i,i∈L.ab↔(cQ i).isSome=l
 u:∀i∈L.ab,∀r,b.u i r=n
 cQ:cQ i=f (.cells #[if w then L.v else .pointer n,v1] ac (0,0))
 cell:dU v1=l
def eL.row(bO:bc k b)(m:k[d]?=f (.E (eL ac W w v1 bN ag al))):∃L e a,mY P k b d ac W w v1 bN ag al L e a:=by have p:d<c b.s:=h2;have g:=bF p;generalize b.s[d]=L at g;obtain⟨a,o,h,i,s⟩:=bO.box d _ L m g;have q:=o;obtain⟨e,r,t,j,_⟩:=q;exact⟨L,e,a,g,r,o,h,i,s,j,t⟩
def mY.mem{L}(a:mY P k b d ac W w v1 bN ag al L i k7):i∈L.ab:=(a.ab i).2 (by rw[a.cQ];rfl)
def mY.ptr{L}(g:mY P k b d ac W w v1 bN ag al L i k7)(h:bv k b aa (aH d off)):aa=.pointer (f ⟨i,off,n⟩):=by obtain⟨_,j,m,a,e,rfl⟩:=(h:cB k b aa (.ptr d off));rw[g.s]at a;cases a;rw[g.v]at e;grind
def Be(aV:b0 P h){q:ae}{e}(x:r.op=.load o q)(p:b1 h o=f e)(C:e.agg=u)(O:k[d]?=f (.E (eL ac W w v1 bN ag al))){v}(E:η q=aH d off)(Q:∀a L b g,bc k a->mY P k a d ac W w v1 bN ag al L b g->∃m,(#[if w then L.v else .pointer n,v1]:Array Y)[off]?=f m/\bv k a m v):a0 P r η k v k:=by
 refine .dx λa s B G=>?_;obtain⟨L,b,g,i⟩:=eL.row (P:=P) B O;have A:=i.ptr (by have:=G q;rwa [E]at this);obtain⟨m,H,M⟩:=Q a L b g B i;have I:a.a.cell? ⟨b,off,n⟩=f m:=by simp only[aL,i.heap _ _ i.cQ];grind
 have t:(loadVar o ⟨b,off,n⟩).run P a.a=.ok m a.a:=by simp[loadVar,(aV o e p).ey,C,run_load,I]
 refine⟨m,by simp[ab,x,A,Instr.loadAt,Instr.sureAddr,t],M,λz y=>?_⟩;have K:z∈(loadVar o ⟨b,off,n⟩).events P a.a #[]:=by
  have F:ab s r=(do pure (.value (<-loadVar o ⟨b,off,n⟩))):=by simp[ab,x,A,Instr.loadAt,Instr.sureAddr]
  rw[F]at y;simpa[t]using y
 obtain⟨J,D,rfl⟩:=pa (aV o e p) (j:=1) (λJ D=>by grind) N z K;exact qn (b' i.s) i.mem
def a0.eQ(aV:b0 P h){g:ae}{e}(p:r.op=.load o g)(a:b1 h o=f e)(i:e.agg=u)(b:k[d]?=f (.E (eL ac W w v1 bN ag al)))(m:η g=aH d 1):a0 P r η k (cL v1) k:=
 Be aV p a i b m λv L t j q s=>⟨v1,by simp,Rd.val s.cell⟩
def Z'(e:k[d]?=f (.E H)):∀a,k[d]?=f a->a.dO=u:=by intro a b;rw[e]at b;cases b;rfl
def a0.gN(aV:b0 P h){i:ae}{e}(s:r.op=.load o i)(b:b1 h o=f e)(m:e.agg=u)(a:k[d]?=f (.E (eL ac W l v1 bN ag al)))(q:η i=aH d 0):a0 P r η k (aH d 0) k:=
 Be aV s b m a q λv L j p t g=>⟨L.v,by simp,Z' a,L,j,g.s,g.v,g.v⟩
def a0.iA(aV:b0 P h){g:ae}{e}(p:r.op=.load o g)(a:b1 h o=f e)(j:e.agg=u)(b:k[d]?=f (.E (eL ac W u v1 bN ag al)))(m:η g=aH d 0):a0 P r η k (ax .bo) k:=
 Be aV p a j b m λv L s i q t=>⟨.pointer n,by simp,Rd.bo⟩
def setRow_size(a:au)(i)(row):(a.setRow i row).heap.size=a.heap.size:=by simp[World.setRow]
def G8(aV:b0 P h){D p:ae}{e}(Z:r.op=.store o D p)(A:b1 h o=f e)(y:e.size=1)(V:k[d]?=f (.E (eL ac W w v1 bN ag al))){q}{t}(R:η D=aH d off)(M:off<2)(J:dU t=l)(ao:∀m L i s z,bc k m->mY P k m d ac W w v1 bN ag al L i s->bv k m z (η p)->dU z=l/\(#[if w then L.v else .pointer n,v1]:Array Y).setIfInBounds off z=#[if q then L.v else .pointer n,t]):a0 P r η k .any (k.set d (.E (eL ac W q t bN ag al))):=by
 intro m b I X;obtain⟨L,i,s,j⟩:=eL.row (P:=P) I V;have G:=j.ptr (by have:=X D;rwa [R]at this);obtain⟨O,H⟩:=ao m L i s (b p) I j (X p);have af:(b p).cells=#[b p]:=by cases F:b p<;>simp[F,dU,Value.cells]at O⊢
 have ai:∀z∈[b p],z.oneCell'=l:=by intro z G;simp at G;subst G;cases F:b p<;>simp[F,dU,Value.oneCell']at O⊢
 have S:=j.heap _ _ j.cQ;have T:=run_storeCells_at P i off ac [b p] 0 _ m.a S N ai;have Q:((#[if w then L.v else .pointer n,v1]:Array Y).toList.take (off+0)++[b p]++(#[if w then L.v else .pointer n,v1]:Array Y).toList.drop (off+0+[b p].length)).toArray=#[if q then L.v else .pointer n,t]:=by
  rw[<-H]
  match off,M with
  |0,_=>grind
  |1,_=>grind
 rw[Q]at T;have ax:(m.a.setRow i #[if q then L.v else .pointer n,t]).heap[i]?=f (.cells #[if q then L.v else .pointer n,t] ac (0,0)):=setRow_heap m.a i _ _ ac _ S;have ah:∀g,g≠i->(m.a.setRow i #[if q then L.v else .pointer n,t]).heap[g]?=m.a.heap[g]?:=λg x=>setRow_other m.a i g _ x;obtain⟨C,t2⟩:=I.ca (d:=d) (j1:=eL ac W q t bN ag al) (ct:=L) (bj:=m.a.setRow i #[if q then L.v else .pointer n,t]) V j.s rfl (by rw[setRow_size];grind)
  (λg x K=>ah g (by rintro rfl;exact K j.mem)) (λg x=>.inl x)
  ⟨λg=>if g=i then f (.cells #[if q then L.v else .pointer n,t] ac (0,0))else s g,by
   obtain⟨E,U,ar,au,av⟩:=j.f';have:E=i:=by rw[j.v]at U;grind
   subst this;have aw:∀g,(if g=E then f (Obj.cells #[if q then L.v else .pointer n,t] ac (0,0))else s g).isSome=l↔(s g).isSome=l:=N;refine⟨E,U,J,by simp,?_⟩;grind,λg aq x=>by
   by_cases v:g=i
   .grind
   .simp only[v,dm]at x;rw[ah g v];exact j.heap _ _ x,λg=>by
   rw[j.ab g];by_cases v:g=i
   .subst v;simp[j.cQ]
   grind⟩ a a a
 have aj:m.s.set d L=m.s:=by
  apply p';intro aa;by_cases v:d=aa
  .subst v;rw[ip (cO.1 j.s).1,j.s]
  grind
 rw[aj]at C t2;refine⟨.skip,{m with a:=m.a.setRow i #[if q then L.v else .pointer n,t]},?_,rfl,C,t2,?_⟩
 .simp[ab,Z,G,Instr.storeAt,Instr.sureAddr,storeVar,(aV o e A).a_,y,af,T]
 intro aM B;have v:ab b r=(do storeVar o ⟨i,off,n⟩ (b p);pure .skip):=by simp[ab,Z,G,Instr.storeAt,Instr.sureAddr]
 rw[v]at B;have an:aM∈(storeCells ⟨i,off,n⟩ [b p]).events P m.a #[]:=by
  simp only[storeVar,aD,(aV o e A).a_,af,y,aG,events_sizeOf,d6,hv,dm,cJ,c8,Sem.events_pure,List.size_toArray,gJ]at B;generalize(storeCells ⟨i,off,n⟩ [b p]).run P m.a=j at B;cases j with
  |ok z bj=>simpa using B
  |halt D bj=>simpa using B
 rcases ng [b p] 0 _ m.a #[] S N ai aM an with az|⟨aa,_,_,rfl⟩
 .grind
 exact og (b' j.s) j.mem (j.u _ j.mem _)
def a0.gb(aV:b0 P h){i j:ae}{e}(s:r.op=.store o i j)(a:b1 h o=f e)(p:e.size=1)(b:k[d]?=f (.E (eL ac W w v1 bN ag al))){q}(z:η i=aH d 1)(v:η j=cL q)(y:dU q=l):a0 P r η k .any (k.set d (.E (eL ac W w q bN ag al))):=
 G8 aV s a p b z x y λC L A m D t B g=>by rw[v]at g;have:=Rd.a' g;grind
def a0.iB(aV:b0 P h){m p:ae}{e}(v:r.op=.store o m p)(b:b1 h o=f e)(q:e.size=1)(g:k[d]?=f (.E (eL ac W w v1 bN ag al)))(A:η m=aH d 0)(t:η p=aH d 0)(z:dU v1=l):a0 P r η k .any (k.set d (.E (eL ac W l v1 bN ag al))):=
 G8 aV v b q g A x z λC L B s D y j i=>by rw[t]at i;have:=j.ptr i;subst this;refine⟨a,?_⟩;rw[<-j.v];rfl
def a0.iw{ac}(p:r.op=.alloc ac)(q:∀j,(zeroValue ac).run P j=.ok (.agg #[.pointer n,.slice n 0 0]) j)(v:∀j g,(zeroValue ac).events P j g=g):a0 P r η k (aH (c k) 0) (k++[.E (eL ac W u (.slice n 0 0) n [] 0)]):=by
 intro b A bO w;let bj:=b.a.alloc (.cells #[.pointer n,.slice n 0 0] ac);obtain⟨y,x⟩:=bO.cY (cf:=b.u) (bj:=bj) (by simp[bj]) (λt h=>iU b.a _ h) (λ_ _ _=>rfl) (λt h r z e=>by have:=bO.block e;omega) rfl rfl rfl;have C:bj.heap.size=b.a.heap.size+1:=by simp[bj]
 have B:bj.heap[b.a.heap.size]?=f (.cells #[.pointer n,.slice n 0 0] ac (0,0)):=lR b.a _;obtain⟨o,t2⟩:=y.bX x rfl bO (bS:=.E (eL ac W u (.slice n 0 0) n [] 0)) (L:=⟨.pointer (f ⟨b.a.heap.size,0,n⟩),[b.a.heap.size]⟩)
  ⟨λd=>if d=b.a.heap.size then f (.cells #[.pointer n,.slice n 0 0] ac (0,0))else n,⟨b.a.heap.size,rfl,rfl,by simp,rfl,λd=>by by_cases m:d=b.a.heap.size<;>simp[m]⟩,λd s i=>by
   grind,λd=>by by_cases m:d=b.a.heap.size<;>simp[m],λd i s=>by
   simp at i;subst i;show b.u _ _=n;cases e:b.u b.a.heap.size s with
   |none=>rfl
   |some z=>have:=bO.block e;omega⟩ (λd i=>by grind)
 refine⟨.value (.pointer (f ⟨b.a.heap.size,0,n⟩)),_,?_,⟨by simp,⟨.pointer (f ⟨b.a.heap.size,0,n⟩),[b.a.heap.size]⟩,b.a.heap.size,?_,a,a⟩,o,t2,?_⟩
 .simp[ab,p,Instr.alloc,q,Go.newVar,newRow,Value.cells,bj]
 .exact t0
 simp[ab,p,Instr.alloc,q,v,Go.newVar,newRow];exact .nil
end
end Go.AM
