/- Part 2. No condition. -/
import Derived.Test.YtipjbfhldjgbnaaGreatDoorA1
import Derived.Test.YtipjbfhldjgbnaaGreatDoorProg
import Derived.MapKept
import Derived.Maps.RangeRun
import Derived.Laws.MakeOwn
import Derived.Lib.SliceRun
import Derived.Lib.FrozenHead
import Derived.Lib.UnsafeStr
import Derived.Lib.MakeNoZero
set_option linter.all false
set_option maxHeartbeats 8000000
open Go.Proofs
open Go.Proofs.Tryz
open Go.Conc (G)
open List renaming length → c, range → aB, getD_eq_getElem?_getD → al
open Go renaming Value → Z, TypeId → aq, Event → aT, undef → K, World → au, Frame → aL, FuncId → a3, execOp → ac, Operand → aA, Program → aI, Goroutine → ak, stepG → ar, Oper → ap
open Option renaming some → f, none → p
open Bool renaming true → m, false → v
open Nat renaming beq → af, ble → ay
open Go.Region renaming wanted → aU, ready → aR
open Go.World renaming cell? → aM
open Go.Sem renaming events_bind → aF
open Go.Result renaming evThen_ok → aK
open Go.Instr renaming sliceBounds → aX
open Go.Op renaming equalIn → aQ
open Go.Proofs.Tryz renaming prog → T
namespace Go.AM
variable {j z:Nat}{h:Int}{d i e u:Nat}{W:aq}{H:Z->(Nat->Option Obj)->Prop}{L:Array Bool}{bD:Mem}{D:Nat}{P:aI}{bq:ak->a5->Prop}{r:Code}{B:ak}{s:ap}{b:a5}{o:aq}{aa:Z}{k X:aA}{α:Type}{η:aA->y}{ι:Type}{l:n an}{F:bI}{all:n ap}{dn:Array aq}{cap:n O}{cR:n y}{lc:Nat->Option Obj}{ai:n aL}{bg:n (Nat×Bool)}{V:Nat->n O}{cP:aA}{gs:Array ak}{aS:n Nat}{cg:n Prop}{off:Nat}{op:BinOp}{aH:Array ap}{ab:n Prop}{bs:n ap}{az:a5}{ty:aq}{val:Nat->Nat->Z}{A:n Z}{bj:au}{ah:Array aA}{ao de:n an}{res:ι->y}{aO:ι->n an}
section force
variable {S:Type}
def vk:O->(O->Option S)->Option S
 |.int g h,a=>a (.int g h)
 |.bool e,a=>a (.bool e)
 |.T l,a=>a (.T l)
 |.C m g h d,a=>a (.C m g h d)
 |.C v g h d,a=>a (.C v g h d)
 |.Q b,a=>eX b λb=>a (.Q b)
 |.cG n b,a=>eX b λb=>a (.cG n b)
 |.fn k i e,a=>eX i λi=>eX e λe=>a (.fn k i e)
 |j,a=>a j
def YP(r)(b:O->Option S):vk r b=b r:=by
 cases r with
 |C d=>cases d<;>rfl
 |Q a=>simp[vk,hv]
 |cG d a=>simp[vk,hv]
 |fn h e g=>simp[vk,hv]
 |_=>rfl
def vj:Q->(Q->Option S)->Option S
 |.c j,a=>vk j λj=>a (.c j)
 |.ptr b i,a=>a (.ptr b i)
 |.w b d h e,a=>a (.w b d h e)
 |.aV b,a=>a (.aV b)
 |.S b (.C g d i h),a=>a (.S b (.C g d i h))
 |.S b (.bz g d l k),a=>a (.S b (.bz g d l k))
 |.any,a=>a .any
def JO(a)(b:Q->Option S):vj a b=b a:=by
 cases a with
 |S e d=>cases d<;>simp[vj]
 |_=>simp[vj,YP]
def ys:n Q->(n Q->Option S)->Option S
 |[],b=>b []
 |a::d,b=>vj a λa=>ys d λd=>b (a::d)
def YO(d)(a:n Q->Option S):ys d a=a d:=by
 induction d generalizing a with
 |nil=>rfl
 |cons e g b=>simp[ys,JO,b]
def yu:E1->(E1->Option S)->Option S
 |.R b,d=>vj b λb=>d (.R b)
 |.agg a,d=>ys a λa=>d (.agg a)
def JP(a)(b:E1->Option S):yu a b=b a:=by cases a<;>simp[yu,JO,YO]
def yv:n E1->(n E1->Option S)->Option S
 |[],b=>b []
 |a::d,b=>yu a λa=>yv d λd=>b (a::d)
def YQ(d)(a:n E1->Option S):yv d a=a d:=by
 induction d generalizing a with
 |nil=>rfl
 |cons e g b=>simp[yv,JP,b]
def ps:y->(y->Option S)->Option S
 |.p d,b=>yu d λd=>b (.p d)
 |.ae a,b=>yv a λa=>b (.ae a)
 |.any,b=>b .any
theorem vl(a)(b:y->Option S):ps a b=b a:=by cases a<;>simp[ps,JP,YQ]
end force
def qW:y->Option (Bool×Nat×Nat×(Nat->n O))
 |.p (.R (.c (.C e b d a)))=>f (e,b,d,a)
 |.p (.R (.w _ b d a))=>f (v,b,d,a)
 |_=>p
theorem tP{d}{o}{h}(a:qW d=f (o,h,j,V))(l)(b)(aa)(e:bx l b aa d):Rd b.E aa (.C o h j V):=by
 unfold qW at a;split at a
 .cases a;exact e
 .cases a;exact e.1
 grind
def kN(b:n UInt8)(a:Int):UInt8:=b.getD a.toNat 0
def Dx(b:n (Nat×bv))(h:aq)(a:y):Option y:=
 match b1 b h with
 |none=>p
 |some d=>match d.desc with
  |.slice _=>match qW a with
   |some (_,_,e,_)=>f (aw (.int .i64 e))
   |none=>p
  |.string=>match a with
   |.p (.R (.c (.T g)))=>f (aw (.int .i64 (c g)))
   |_=>p
  |_=>p
def B_(d:n (Nat×bv))(l k:aq)(b:y):Option (y×n Prop):=
 match b1 d l with
 |none=>p
 |some g=>match b1 d k with
  |none=>p
  |some cd=>match cd.desc with
   |.int a=>match b with
    |.p (.R (.c (.int _ i)))=>f (aw (.int a i),[a7 a i])
    |_=>p
   |.string=>match b with
    |.p (.R (.c (.T s)))=>f (aw (.T s),[])
    |b=>match g.desc with
     |.slice j=>match b1 d j with
      |some h=>match h.desc with
       |.int .u8=>match qW b with
        |some (_,o,q,e)=>match af o 1 with
         |true=>match uX e 0 q with
          |some r=>f (aw (.T r),[])
          |none=>p
         |false=>p
        |none=>p
       |_=>p
      |none=>p
     |_=>p
   |_=>p
def Ev(j:n (Nat×bv))(a:aA->y)(t:aq)(o:aA)(i h:Option aA):Option (y×n Prop):=
 match b1 j t with
 |none=>p
 |some r=>match kM a i with
  |none=>p
  |some d=>match kM a h with
   |none=>p
   |some e=>match r.desc with
    |.string=>match a o with
     |.p (.R (.c (.T l)))=>f (aw (.T (mz l d e)),ji (c l) d e)
     |_=>p
    |.slice q=>match b1 j q with
     |none=>p
     |some b=>match qW (a o)with
      |some (eU,s,k,g)=>match af s b.size with
       |true=>f (aw (.C (xX eU e) b.size (bU k e-bU 0 d) (fA (bU 0 d) g)),ji k d e)
       |false=>p
      |none=>p
    |_=>p
def sQ(d:BinOp)(e:IntKind)(g:Int)(b:IntKind)(h:Int):Option (y×n Prop):=
 match uS d e g b h with
 |some (i,a)=>f (aw (.int e i),a)
 |none=>p
theorem SK{h a}{b i}{e}(g:sQ op h b a i=f (e,cg)):∃d,e=aw (.int h d)/\uS op h b a i=f (d,cg):=by unfold sQ at g;grind
def GQ(q:n (Nat×bv))(e:BinOp)(r:aq)(t u:y):Option (y×n Prop):=
 match t,u with
 |.p (.R (.c (.bool b))),.p (.R (.c (.bool a)))=>match b1 q r with
  |some o=>match o.desc with
   |.bool=>match h_ e (b==a)with
    |some g=>f (aw (.bool g),[])
    |none=>p
   |_=>p
  |none=>p
 |.p (.R (.c b)),.p (.R (.c a))=>match e with
  |.xor=>match b,a with
   |.int .i64 b,.int .i64 a=>f (aw (.int .i64 ((b.toNat ^^^ a.toNat:Nat):Int)),[0<=b,0<=a])
   |.int .u64 b,.int d a=>sQ .xor .u64 b d a
   |_,_=>p
  |.shl=>match b,a with
   |.int h b,.int d a=>sQ .shl h b d a
   |_,_=>p
  |.shr=>match b,a with
   |.int h b,.int d a=>sQ .shr h b d a
   |_,_=>p
  |.and=>match b,a with
   |.int h b,.int d a=>sQ .and h b d a
   |_,_=>p
  |_=>match xu e b a with
   |some (g,i)=>f (aw g,i)
   |none=>p
 |.p (.agg j),.p (.agg l)=>match b1 q r with
  |some o=>match o.eq with
   |[]=>p
   |s::k=>match qr (s::k) j l with
    |some a=>match h_ e a with
     |some g=>f (aw (.bool g),[])
     |none=>p
    |none=>p
  |none=>p
 |_,_=>p
def y1(e:n (Nat×bv))(A:n (Nat×bK))(a:bI)(O:ap):Option (y×n Prop):=
 match O.op with
 |.move k|.assign k=>f (bF a k,[])
 |.index b k x=>match b1 e b with
  |some j=>match j.desc with
   |.string=>match bF a k,bF a x with
    |.p (.R (.c (.T r))),.p (.R (.c (.int _ h)))=>f (aw (.int .u8 (kN r h).toNat),[0<=h,h<c r])
    |_,_=>p
   |_=>p
  |none=>p
 |.indexAddr b k x=>match b1 e b with
  |some j=>match j.desc with
   |.slice M=>match b1 e M with
    |some I=>match qW (bF a k),bF a x with
     |some (_,l,z,o),.p (.R (.c (.int _ h)))=>match af l I.size with
      |true=>f (aw (.Q (o h.toNat)),[0<=h,h<z])
      |false=>p
     |_,_=>p
    |none=>p
   |_=>p
  |none=>p
 |.slice b k J F p=>Ev e (bF a) b k J F
 |.convert w dst k=>B_ e w dst (bF a k)
 |.call g=>match g.callee with
  |.builtin .len=>match g.args.toList,g.argTypes[0]? with
   |[k],f b=>match Dx e b (bF a k)with
    |some N=>f (N,[])
    |none=>p
   |_,_=>p
  |.value E=>BW A a E g.args.toList
  |_=>p
 |.pick g s t=>match bF a g with
  |.p (.R (.c (.bool m)))=>f (bF a s,[])
  |.p (.R (.c (.bool v)))=>f (bF a t,[])
  |_=>p
 |.binOp q b k x _=>GQ e q b (bF a k) (bF a x)
 |.unOp q _ k=>match bF a k with
  |.p (.R (.c s))=>match zL q s with
   |some g=>f (aw g,[])
   |none=>p
  |_=>p
 |.extract k h=>match bF a k with
  |.ae K=>match c9 h K with
   |some u=>f (.p u,[])
   |none=>p
  |_=>p
 |.fieldAddr b k D=>match lk e b D with
  |some (l,_)=>match bF a k with
   |.p (.R (.ptr r i))=>f (aD r (i+l),[])
   |.p (.R (.c (.Q d)))=>f (aw (.Q (fU l d)),[])
   |_=>p
  |none=>p
 |.field b k D=>match lk e b D with
  |some (l,h)=>match bF a k with
   |.p (.agg d)=>match hf h (fU l d)with
    |some u=>f (.p u,[])
    |none=>p
   |_=>p
  |none=>p
 |.nilCheck k=>match bF a k with
  |.p (.R (.ptr r i))=>f (aD r i,[])
  |.p (.R (.c (.Q d)))=>f (aw (.Q d),[])
  |_=>p
 |.build b parts=>match xy e (bF a) b parts.toList with
  |some d=>f (.p (.agg d),[])
  |none=>p
 |.buildSlice b z parts=>match rW e (bF a) b z parts.toList with
  |some (l,o)=>f (aw (.C m l z λj=>o.getD j []),[])
  |none=>p
 |.makeFunc fn s t=>match rI (bF a) s.toList with
  |some B=>match rI (bF a) t.toList with
   |some C=>f (aw (.fn fn B C),[])
   |none=>p
  |none=>p
 |.makeInterface b k=>match b1 e b with
  |some j=>match vv j.desc with
   |false=>match yS b (bF a k)with
    |some g=>f (aw g,[])
    |none=>p
   |true=>p
  |none=>p
 |.typeAssert k _ b m=>match b1 e b with
  |some j=>match vv j.desc with
   |false=>match bF a k with
    |.p (.R (.c g))=>match sO b j g with
     |some (u,t)=>f (.ae [u,.R (.c (.bool t))],[])
     |none=>p
    |_=>p
   |true=>p
  |none=>p
 |_=>p
def DC(h:n (Nat×bv))(g:bI)(i:n an)(k:aq)(l:aA):Option y:=
 match b1 h k with
 |some e=>match bF g l with
  |.p (.R (.ptr j b))=>match c9 j i with
   |some (.cells _ a)=>match hf e (fU b a)with
    |some d=>f (.p d)
    |none=>p
   |_=>p
  |.p (.R (.c (.Q a)))=>match hf e (a.map Q.c)with
   |some d=>f (.p d)
   |none=>p
  |_=>p
 |none=>p
def DR(k:n (Nat×bv))(b:bI)(J:ap):Option (y×n Prop):=
 match J.op with
 |.indexAddr j g w=>match b1 k j with
  |some a=>match a.desc with
   |.slice q=>match b1 k q with
    |some e=>match bF b g,bF b w with
     |.p (.R (.S s (.C r l u h))),.p (.R (.c (.int _ d)))=>match af l e.size with
      |true=>f (cz s (.bz r e.size (u+d.toNat) 0),[0<=d,d<h])
      |false=>p
     |.p (.R (.c (.val (.slice (f ⟨z,i,p⟩) o _)))),.p (.R (.c (.int _ d)))=>f (aw (.val (.pointer (f ⟨z,i+d.toNat*e.size,p⟩))),[0<=d,d<o])
     |_,_=>p
    |none=>p
   |_=>p
  |none=>p
 |.fieldAddr j g I=>match lk k j I with
  |some (l,_)=>match bF b g with
   |.p (.R (.S s (.bz r x a u)))=>f (cz s (.bz r x a (u+l)),[])
   |.p (.R (.c (.val (.pointer (f ⟨z,i,p⟩)))))=>f (aw (.val (.pointer (f ⟨z,i+l,p⟩))),[])
   |_=>p
  |none=>p
 |.nilCheck g=>match bF b g with
  |.p (.R (.S s (.bz r x a u)))=>f (cz s (.bz r x a u),[])
  |_=>p
 |.slice j g D C p=>match b1 k j with
  |none=>p
  |some a=>match kM (bF b) D with
   |none=>p
   |some t=>match kM (bF b) C with
    |none=>p
    |some F=>match a.desc with
     |.slice q=>match b1 k q with
      |none=>p
      |some e=>match bF b g with
       |.p (.R (.S s (.C r l u h)))=>match af l e.size with
        |true=>f (cz s (.C r e.size (u+bU 0 t) (bU h F-bU 0 t)),ji h t F)
        |false=>p
       |_=>p
     |_=>p
 |.slice j g p (f w) (f E)=>match b1 k j with
  |none=>p
  |some a=>match a.desc with
   |.slice q=>match b1 k q with
    |none=>p
    |some _=>match qW (bF b g),bF b w,bF b E with
     |some (_,l,o,B),.p (.R (.c (.int _ d))),.p (.R (.c (.int _ h)))=>f (aw (.C v l d.toNat B),[0<=d,d<=h,h<=o])
     |_,_,_=>p
   |_=>p
 |.slice j g (f K) (f w) (f E)=>match b1 k j with
  |none=>p
  |some a=>match a.desc with
   |.slice q=>match b1 k q with
    |none=>p
    |some _=>match bF b g,bF b K,bF b w,bF b E with
     |.p (.R (.S _ (.C _ _ _ o))),.p (.R (.c (.int _ a))),.p (.R (.c (.int _ d))),.p (.R (.c (.int _ h)))=>f (.p (.R .any),[0<=a,a<=d,d<=h,h<=o])
     |_,_,_,_=>p
   |_=>p
 |.call A=>match A.callee with
  |.builtin .len=>match A.args.toList,A.argTypes[0]? with
   |[g],f j=>match b1 k j with
    |some a=>match a.desc with
     |.slice _=>match bF b g with
      |.p (.R (.S _ (.C _ _ _ h)))=>f (aw (.int .i64 h),[])
      |.p (.R (.c (.val (.slice _ o _))))=>f (aw (.int .i64 o),[o<=9223372036854775807])
      |_=>p
     |_=>p
    |none=>p
   |_,_=>p
  |_=>p
 |_=>p
def yL(i:n (Nat×bv))(h:bI)(j:n an)(s:aq)(t:aA):Option (y×n Prop):=
 match b1 i s with
 |some b=>match bF h t with
  |.p (.R (.S r (.bz o q e l)))=>match c9 r j with
   |some (.q _ d g a)=>match af d q with
    |true=>match hf b ((fU l (a e)).map Q.c)with
     |some k=>f (.p k,[o=g,e<g])
     |none=>p
    |false=>p
   |_=>p
  |_=>p
 |none=>p
def afc:Nat->n O->Nat->Bool
 |0,a,b=>af (c a) b
 |_+1,_,_=>v
def EF(u:n (Nat×bv))(q:bI)(i:n an)(w:aq)(x z:aA):Option (y×n an×n Prop):=
 match b1 u w with
 |some k=>match bF q x with
  |.p (.R (.S l (.bz s t h r)))=>match c9 l i with
   |some (.q o e g d)=>match af e t with
    |true=>match mx (bF q z)with
     |some new=>match af (c new) k.size with
      |true=>match h4 new with
       |some b=>match afc r b t with
        |true=>eX (c'.cu l (.q o e g (lx h b d)) i) λa=>f (.any,a,[s=g,h<g])
        |false=>match iV r b (d h)with
         |some j=>eX (c'.cu l (.q o e g (lx h j d)) i) λa=>f (.any,a,[s=g,h<g])
         |none=>p
       |none=>p
      |false=>p
     |none=>p
    |false=>p
   |_=>p
  |_=>p
 |none=>p
def pD(b:n (Nat×bv))(d:n (Nat×bK))(a:bI)(g:n an)(e:ap):Option (y×n Prop):=
 match e.op with
 |.load h i=>match DC b a g h i with
  |some j=>f (j,[])
  |none=>yL b a g h i
 |_=>match y1 b d a e with
  |some k=>f k
  |none=>DR b a e
def xn(e:n (Nat×bv))(i g:aq):Option (aq×bv):=
 match b1 e i with
 |none=>p
 |some h=>match b1 e g with
  |none=>p
  |some cd=>match h.desc with
   |.slice b=>match cd.desc with
    |.slice d=>match af d b with
     |false=>p
     |true=>match b1 e b with
      |none=>p
      |some a=>match ay 1 a.bytes,ay 1 a.size with
       |true,m=>f (b,a)
       |_,_=>p
    |_=>p
   |_=>p
def uO(h:n (Nat×bv))(e:aA->y)(l:aA)(k i:aq):Option (aq×bv×Nat×(Nat->n O)):=
 match xn h k i with
 |none=>p
 |some (g,b)=>match qW (e l)with
  |none=>p
  |some (_,d,j,a)=>match af d b.size with
   |false=>p
   |true=>f (g,b,j,a)
def A5(t:n (Nat×bv))(s:aA->y)(j:n an)(z A:aA)(x u:aq):Option (y×n an×n Prop):=
 match uO t s A x u with
 |none=>p
 |some (q,a,i,b)=>match s z with
  |.p (.R (.c (.C m r d g)))=>match af r a.size with
   |true=>eX (j++[.w q a.size (d+i) (cf d g b)]) λh=>f (.p (.R (.w (c j) a.size (d+i) (cf d g b))),h,[(d+i)*a.bytes<=140737488355328,d=0∨0<i])
   |false=>match af d 0 with
    |true=>eX (j++[.w q a.size (d+i) (cf d g b)]) λh=>f (.p (.R (.w (c j) a.size (d+i) (cf d g b))),h,[(d+i)*a.bytes<=140737488355328,d=0∨0<i])
    |false=>p
  |.p (.R (.w o r d g))=>match c9 o j with
   |some (.w k l e kP)=>match af k q,af r a.size,af l a.size with
    |true,m,m=>eX (c'.cu o (.w q a.size (d+i) (cf d g b)) j) λh=>f (.p (.R (.w o a.size (d+i) (cf d g b))),h,[e=d,kP=g,(d+i)*a.bytes<=140737488355328])
    |_,_,_=>p
   |_=>p
  |.p (.R (.S o (.C w r 0 d)))=>match c9 o j with
   |some (.q k l e kP)=>match af k q,af r a.size,af l a.size with
    |true,m,m=>eX (c'.cu o (.q q a.size (e+i) (cf e kP b)) j) λh=>f (cz o (.C (e+i) a.size 0 (e+i)),h,[w=e,d=e,(e+i)*a.bytes<=140737488355328])
    |_,_,_=>p
   |_=>p
  |_=>p
def DU(d:n (Nat×bv))(g:n (Nat×bK))(a:bI)(b:n an)(i:ap):Option (y×n an×n Prop):=
 match i.op with
 |.alloc _|.box _ _=>y0 d a b i
 |.store j k l=>match y0 d a b i with
  |some q=>f q
  |none=>EF d a b j k l
 |.call e=>match e.callee with
  |.builtin .append=>match e.args.toList,e.argTypes.toList with
   |[k,l],[j,o]=>A5 d (bF a) b k l j o
   |_,_=>p
  |.value h=>BV g a b h e.args.toList
  |_=>p
 |_=>p
def A4(i:n (Nat×bv))(e:aA->y)(l o:aA)(k j:aq):Option (y×n Prop):=
 match uO i e o k j with
 |none=>p
 |some (_,b,h,a)=>match e l with
  |.p (.R (.c (.C m q d g)))=>match af d 0 with
   |true=>f (aw (.C v b.size (d+h) (cf d g a)),[(d+h)*b.bytes<=140737488355328,d=0∨0<h])
   |false=>p
  |_=>p
def DS(d:n (Nat×bv))(b:bI)(g:ap):Option (y×n Prop):=
 match g.op with
 |.call a=>match a.callee with
  |.builtin .append=>match a.args.toList,a.argTypes.toList with
   |[i,j],[h,e]=>A4 d (bF b) i j h e
   |_,_=>p
  |_=>p
 |_=>p
def vC:n (Nat×Bool)->Nat->Option Bool
 |[],_=>p
 |(d,b)::e,a=>match af d a with|true=>f b|false=>vC e a
def Dq(a:n (Nat×Bool)):Option Nat->Bool
 |none=>v
 |some b=>match vC a (2000000+b)with
  |some m=>m
  |_=>v
def aaM(a:n (Nat×Bool)):Option Nat->Bool
 |none=>v
 |some b=>match vC a (3000000+b)with
  |some m=>m
  |_=>v
def A6(s:aq)(a:bv)(d:aA->y)(t:n an)(z A:aA):Option (y×n an×n Prop):=
 match d z,d A with
 |.p (.R (.S e (.C w x 0 l))),.p (.R (.S r (.C k o u g)))=>match af r e with
  |false=>p
  |true=>match c9 e t with
   |some (.q h q b j)=>match af h s,af x a.size,af o a.size,af q a.size with
    |true,m,m,m=>eX (c'.cu e (.q s a.size b (qP l u g j)) t) λi=>f (cz e (.C b a.size 0 (l+g)),i,[w=b,k=b,l+g<=b,u+g<=b])
    |_,_,_,_=>p
   |_=>p
 |_,_=>p
def A7(t:Bool)(k:n (Nat×bv))(b:aA->y)(h:n an)(q r:aA)(o l:aq):Option (y×n an×n Prop):=
 match t with
 |true=>match uO k b r o l with
  |none=>p
  |some (g,a,e,d)=>match b q with
   |.p (.R (.c (.C m _ s j)))=>match af s 0 with
    |true=>eX (h++[.q g a.size (0+e) (cf 0 j d)]) λi=>f (cz (c h) (.C (0+e) a.size 0 (0+e)),i,[(0+e)*a.bytes<=140737488355328])
    |false=>p
   |_=>p
 |false=>match xn k o l with
  |none=>p
  |some (g,a)=>A6 g a b h q r
def y2(j:Bool)(d:n (Nat×bv))(b:bI)(e:n an)(h:ap):Option (y×n an×n Prop):=
 match h.op with
 |.call a=>match a.callee with
  |.builtin .append=>match a.args.toList,a.argTypes.toList with
   |[k,l],[i,g]=>A7 j d (bF b) e k l i g
   |_,_=>p
  |_=>p
 |_=>p
def vN(h:n (Nat×Bool))(e:n (Nat×bv))(b:n (Nat×bK))(d:bI)(g:n an)(a:ap):Option (y×n an×n Prop):=
 match aaM h a.dst with
 |true=>y2 m e d g a
 |false=>match DU e b d g a with
  |some i=>f i
  |none=>y2 v e d g a
def u'(b:n (Nat×Bool))(g:Option Nat)(d:y)(a:n Prop):Option (y×n Prop):=
 match g with
 |none=>f (d,a)
 |some i=>match vC b i with
  |none=>f (d,a)
  |some e=>match d with
   |.p (.R (.c (.bool h)))=>f (aw (.bool e),gD a [h=e])
   |_=>p
def Tu{d}{k X}{b}(a:u' bg d k cg=f (X,b))(e:U b):X=k/\U cg:=by
 unfold u' at a;split at a
 .grind
 split at a
 .grind
 split at a
 .cases a;simp_all
 grind
def hB(j:n (Nat×bv))(g:n (Nat×bK))(d:n (Nat×Bool))(h:n ap)(i:bI)(q:n an)(e:ap):Option (y×Option (n an)×n Prop):=
 let go:Option (y×Option (n an)×n Prop):=match pD j g i q e with
  |some (b,a)=>match u' d e.dst b a with
   |some (o,r)=>ps o λo=>f (o,p,r)
   |none=>p
  |none=>match Dq d e.dst with
   |true=>match DS j i e with
    |some (b,a)=>ps b λb=>f (b,p,a)
    |none=>p
   |false=>match vN d j g i q e with
    |some (b,k,a)=>ps b λb=>f (b,f k,a)
    |none=>p
 match e.guard with
 |none=>go
 |some (t,s)=>match yA i h t with
  |some (f l)=>match s,l with
   |true,m=>go
   |false,v=>go
   |_,_=>f (.ae [],p,[])
  |some p=>f (.ae [],p,[])
  |none=>p
section
variable {q:ag P}{ad:n (Nat×bv)}{CT:n (Nat×bK)}
def GH(aV:bn P ad){g}{a4}(i:s.op=.call {callee:=.builtin .append,args:=#[k,X],argTypes:=#[o,g]})(a:xn ad o g=f (W,a4)):j6 P s k X W a4:=by
 unfold xn at a;split at a
 .cases a
 rename_i j h;split at a
 .cases a
 rename_i cd d;split at a
 case h_2=>cases a
 rename_i W q;split at a
 case h_2=>cases a
 rename_i l b;split at a
 .cases a
 rename_i n;have r:=di n;subst r;split at a
 .cases a
 rename_i a4 e;split at a
 case h_2=>cases a
 rename_i t u;cases a;exact⟨⟨o,g,j,cd,i,aV o j h,q,aV g cd d,b⟩,aV _ _ e,by exact lN,by exact lN⟩
def A8(aV:bn P ad){i}{a4}{a:Nat->n O}(j:s.op=.call {callee:=.builtin .append,args:=#[k,X],argTypes:=#[o,i]})(b:uO ad η X o i=f (W,a4,z,a)):
  j6 P s k X W a4/\∃d,∀h e g,bx h e g (η X)->Rd e.E g (.C d a4.size z a):=by
 unfold uO at b;split at b
 .cases b
 rename_i r;split at b
 .cases b
 rename_i d u z a l;split at b
 .cases b
 rename_i q;have t:=di q;subst t;cases b;exact⟨GH aV j r,d,λh e g=>tP l h e g⟩
theorem SA(aV:bn P ad)(A:∀l n r,bZ D l n F r->aU s (yielded all.toArray r.tmps)=m){x}{u}(g:s.op=.call {callee:=.builtin .append,args:=#[k,X],argTypes:=#[o,x]})(a:A4 ad (bF F) k X o x=f (u,cg))(t:U cg):aJ q D all s F l u l:=by
 unfold A4 at a;split at a
 .cases a
 rename_i y B I w d;obtain⟨z,C,b⟩:=A8 aV g d;have b:=λn E=>b l n E;split at a
 .rename_i h j V i;split at a
  .rename_i e;cases a;exact(aJ.a1 A (a0.gf z i (.inr (di e)) b t.1 t.2)).e3
  grind
 grind
theorem SB(aV:bn P ad){D}{E}(t:s.op=.call {callee:=.builtin .append,args:=#[k,X],argTypes:=#[o,D]})(a:A5 ad η l k X o D=f (E,ao,cg))(e:U cg):a0 P s η l E ao:=by
 unfold A5 at a;split at a
 .cases a
 rename_i I K S F r;obtain⟨i,N,g⟩:=A8 aV t r;have g:=λM R=>g l M R;split at a
 .rename_i h j V b;split at a
  .rename_i bT;rw[hv]at a;cases a;exact a0.gf i b (.inl (di bT)) g e.1 e.2
  split at a
  .rename_i J;rw[hv]at a;cases a;exact a0.gf i b (.inr (di J)) g e.1 e.2
  grind
 .rename_i d h j V b;split at a
  .rename_i W O n kP gG;split at a
   .rename_i A x C;rw[hv,mU]at a;cases a;obtain⟨u,Q,y⟩:n=j/\kP=V/\_:=e;subst u;subst Q;have w:=di A;subst w;have z:=di x;have q:=di C;subst q;subst z;exact a0.ie i b (er gG) g y
   grind
  grind
 .rename_i d B h j b;split at a
  .rename_i W O n kP gG;split at a
   .rename_i A x C;rw[hv,mU]at a;cases a;obtain⟨u,Q,y⟩:B=n/\j=n/\_:=e;subst u;subst Q;have w:=di A;subst w;have z:=di x;have q:=di C;subst q;subst z;exact a0.ia i b (er gG) g y
   grind
  grind
 grind
theorem aaU(aV:bn P ad){g}(d:s.op=.call {callee:=.builtin .len,args:=#[k],argTypes:=dn})(n:dn[0]?=f o)(a:Dx ad o (η k)=f g):a0 P s η l g l:=by
 unfold Dx at a;split at a
 .cases a
 rename_i t b;split at a
 .rename_i W i;split at a
  .rename_i eU h j V e;cases a;exact a0.jq aV d n b i (λq r=>tP e l q r)
  grind
 .grind [a0.jr]
 grind
theorem Ti(aV:bn P ad){i r}{t}(n:s.op=.convert i r k)(a:B_ ad i r (η k)=f (t,cg))(w:U cg):a0 P s η l t l:=by
 unfold B_ at a;split at a
 .cases a
 rename_i E g;split at a
 .cases a
 rename_i cd b;split at a
 .rename_i A e;split at a
  .rename_i h u z;cases a;exact a0.iE aV n g b e z w
  grind
 .rename_i e;split at a
  .grind [a0.iG]
  split at a
  .rename_i W B;split at a
   .rename_i a4 o;split at a
    .rename_i y;split at a
     .rename_i eU h j V q;split at a
      .rename_i bT;have x:=di bT;subst x;split at a
       .rename_i F d;cases a;exact a0.iD aV n g b B e o y (λC D=>tP q l C D) d
       grind
      grind
     grind
    grind
   grind
  grind
 grind
theorem ac'(aV:bn P ad){eZ bp}{b}(d:s.op=.slice o k eZ bp p)(a:Ev ad η o k eZ bp=f (b,cg))(e:U cg):a0 P s η l b l:=by
 unfold Ev at a;split at a
 .cases a
 rename_i j g;split at a
 .cases a
 rename_i n i;split at a
 .cases a
 rename_i q h;split at a
 .grind [a0.jZ]
 .grind [Nat.eq_of_beq_eq_true,a0.jY,tP]
 grind
theorem A9{a:Array α}{b:α}(d:a.toList=[b]):a=#[b]:=Array.ext' d
theorem A_{a:Array α}{b d:α}(e:a.toList=[b,d]):a=#[b,d]:=Array.ext' e
theorem aby(aV:bn P ad)(L:a9 q CT){I:y}(t:y1 ad CT F s=f (I,cg))(n:U cg)(bb:∀l A g,bZ D l A F g->aU s (yielded all.toArray g.tmps)=m):aJ q D all s F l I l:=by
 unfold y1 at t;split at t
 .grind [aJ.a1,a0.move]
 .grind [aJ.a1,a0.assign]
 .rename_i o k X a;split at t
  .rename_i e bp;split at t
   .rename_i B;split at t
    .rename_i d h u b Q;cases t;obtain⟨M,K⟩:0<=u/\u<(c d:Int):=n;have:=a0.jh (l:=l) (z:=u.toNat) aV a bp B b Q x x;have J:kN d u=d[u.toNat]'x:=by simp[kN,al,bG (by omega:u.toNat<c d)]
     grind[aJ.a1]
    grind
   grind
  grind
 .rename_i o k X a;split at t
  .rename_i e bp;split at t
   .rename_i W B;split at t
    .rename_i a4 w;split at t
     .rename_i eU h j V S u b Q;split at t
      .rename_i bT;cases t;obtain⟨M,K⟩:0<=u/\u<(j:Int):=n;have J:=di bT;subst J;exact aJ.a1 bb (a0.indexAddr (z:=u.toNat) aV a bp B w (λA T=>tP b l A T) Q x x)
      grind
     grind
    grind
   grind
  grind
 .grind [aJ.a1,ac']
 .grind [aJ.a1,Ti]
 .rename_i r a;obtain⟨H,args,E⟩:=r;grind[A9,aJ.a1,aaU,aJ.iC]
 .rename_i r g i bc;split at t
  .exact Pl
  .exact Pl
  grind
 .rename_i op o X Z ty bc;unfold GQ at t;split at t
  .grind [aJ.a1,a0.iy]
  .rename_i g i _ O C;split at t
   .split at t
    .rename_i _ _ N R _ _;cases t;exact aJ.a1 bb (a0.kj bc O C n.1 n.2)
    .exact z1
    grind
   .exact z1
   .exact z1
   .exact z1
   grind[aJ.a1,a0.binOp]
  .rename_i ai V O C;split at t
   .grind [aJ.a1,a0.j8]
   grind
  grind
 .grind [aJ.a1,a0.unOp]
 .grind [aJ.a1,a0.extract,er]
 .rename_i o X Y bc;split at t
  .rename_i h u G;split at t
   .rename_i d off b;cases t;exact aJ.a1 bb (a0.g8 aV bc b G)
   .grind [aJ.a1,a0.g9]
   grind
  grind
 .grind [aJ.a1,a0.field]
 .grind [aJ.a1,a0.hD,a0.hE]
 .grind [aJ.a1,a0.build]
 .grind [aJ.a1,a0.buildSlice]
 .grind [aJ.a1,a0.makeFunc]
 .grind [aJ.a1,a0.makeInterface]
 .grind [aJ.a1,a0.typeAssert]
 grind
theorem abv(aV:bn P ad){J:y}(a:DR ad F s=f (J,cg))(q:U cg):a0 P s (bF F) l J l:=by
 unfold DR at a;split at a
 .rename_i o k X b;split at a
  .rename_i e bp;split at a
   .rename_i W Q;split at a
    .rename_i a4 n;split at a
     .rename_i d B h K z C u g x;split at a
      .rename_i bT;cases a;obtain⟨O,w⟩:0<=u/\u<(z:Int):=q;grind[Nat.eq_of_beq_eq_true,a0.jf]
      grind
     .rename_i i off j cap C u g x;cases a;obtain⟨O,w⟩:0<=u/\u<(j:Int):=q;grind[a0.jg]
     grind
    grind
   grind
  grind
 .rename_i o k ag b;split at a
  .rename_i h u H;split at a
   .rename_i d B aP e K g;cases a;exact a0.iS aV b g H
   .rename_i i off g;cases a;exact a0.iT aV b g H
   grind
  grind
 .grind [a0.jC]
 .rename_i o k eZ bp b;split at a
  .cases a
  rename_i e D;split at a
  .cases a
  rename_i Y aa;split at a
  .cases a
  grind[Nat.eq_of_beq_eq_true,a0.sliceB]
 .rename_i o k X R b;split at a
  .cases a
  rename_i e D;split at a
  .rename_i W Q;split at a
   .cases a
   rename_i a4 n;split at a
   .rename_i eU h j V A u L z g x G;cases a;obtain⟨O,w,E⟩:0<=u/\u<=z/\z<=(j:Int):=q;exact a0.jV aV b D Q n (λM N=>tP g l M N) x G O w E
   grind
  grind
 .rename_i o k ah X R b;split at a
  .cases a
  rename_i e D;split at a
  .rename_i W Q;split at a
   .cases a
   rename_i a4 n;split at a
   .rename_i d B h K j ab e A u L z g Z x G;cases a;obtain⟨O,w,E,T⟩:0<=e/\e<=u/\u<=z/\z<=(j:Int):=q;grind[a0.slice3B]
   grind
  grind
 .rename_i r b;obtain⟨S,args,I⟩:=r;simp only at a;split at a
  .split at a
   .rename_i k o g av;split at a
    .rename_i e bp;split at a
     .rename_i W Q;split at a
      .grind [A9,a0.jl]
      .rename_i ae j cap t;cases a;have:=A9 g;subst this;exact a0.js aV b av bp Q t q
      grind
     grind
    grind
   grind
  grind
 grind
theorem aaZ(aV:bn P ad)(b:s.op=.load o k){n}(a:yL ad F l o k=f (n,cg))(g:U cg):a0 P s (bF F) l n l:=by
 unfold yL at a;split at a
 .rename_i u bp;split at a
  .rename_i d B h e w r;split at a
   .rename_i W t j V aG;split at a
    .rename_i bT;have q:=di bT;subst q;split at a
     .rename_i q i;cases a;exact a0.e9 aV b r g.1 (er aG) bp i g.2
     grind
    grind
   grind
  grind
 grind
theorem adB(aV:bn P ad)(i:s.op=.store o k X){y}(a:EF ad F l o k X=f (y,ao,cg))(q:U cg):a0 P s (bF F) l y ao:=by
 unfold EF at a;split at a
 .rename_i C bp;split at a
  .rename_i d B h e t r;split at a
   .rename_i W w j V aG;split at a
    .rename_i bT;have A:=di bT;subst A;split at a
     .rename_i new n;split at a
      .rename_i u;split at a
       .rename_i gE b;split at a
        .rename_i z;rw[hv,mU]at a;cases a;have x:t=0/\c gE=w:=by
          cases t with
          |zero=>exact⟨rfl,di z⟩
          |succ t=>exact cQ
         obtain⟨rfl,x⟩:=x;exact a0.h3 aV i r q.1 (er aG) bp n (di u) b (λD=>MF N) q.2
        split at a
        .rename_i ci g;rw[hv,mU]at a;cases a;exact a0.h3 aV i r q.1 (er aG) bp n (di u) b (λ_=>g) q.2
        grind
       grind
      grind
     grind
    grind
   grind
  grind
 grind
theorem abA(aV:bn P ad)(h:a9 q CT){d}(a:pD ad CT F l s=f (d,cg))(g:U cg)(k:∀l e b,bZ D l e F b->aU s (yielded all.toArray b.tmps)=m):aJ q D all s F l d l:=by
 unfold pD at a;split at a
 .rename_i o X j;split at a
  .rename_i B i;cases a;unfold DC at i;split at i
   .grind [aJ.a1,a0.hp,er,a0.hq]
   grind
  grind[aJ.a1,aaZ]
 grind[aby,aJ.a1,abv]
theorem abw(aV:bn P ad)(n:a9 q CT){d:y}(e:DU ad CT F l s=f (d,ao,cg))(i:U cg)(k:∀l h a,bZ D l h F a->aU s (yielded all.toArray a.tmps)=m):aJ q D all s F l d ao:=by
 unfold DU at e;split at e
 .grind [aJ.a1,DT]
 .grind [aJ.a1,DT]
 .grind [aJ.a1,DT,adB]
 .rename_i r g;obtain⟨j,args,b⟩:=r;grind[A_,aJ.a1,SB,aJ.call]
 grind
def SC{a4}{g}(n:j6 P s k X W a4)(a:A6 W a4 η l k X=f (g,ao,cg))(i:U cg):a0 P s η l g ao:=by
 unfold A6 at a;split at a
 .rename_i d B h e y w x u z J C;split at a
  .cases a
  rename_i q;have b:=di q;subst b;split at a
  .rename_i O K j V gG;split at a
   .rename_i o D9 tC D_;have r:=di o;have I:=di D9;have t:=di tC;have D:=di D_;rw[hv]at a;cases a;obtain⟨Q,F,A,E⟩:=i;subst Q F r I t D;have:=a0.ib (l:=l) n J C (er gG) A E;grind[mU]
   grind
  grind
 grind
theorem SD(aV:bn P ad){D}{q}{n}(b:s.op=.call {callee:=.builtin .append,args:=#[k,X],argTypes:=#[o,q]})(a:A7 D ad η l k X o q=f (n,ao,cg))(i:U cg):a0 P s η l n ao:=by
 unfold A7 at a;split at a
 .split at a
  .cases a
  rename_i t z E r d;obtain⟨u,B,w⟩:=A8 aV b d;split at a
  .rename_i h j V g;split at a
   .rename_i e;have x:=di e;subst x;rw[hv]at a;cases a;exact a0.ic u g (λA C=>w _ A C) i
   grind
  grind
 split at a
 .cases a
 rename_i y;exact SC (GH aV b y) a i
theorem abx(aV:bn P ad)(o:a9 q CT){a:y}(b:vN bg ad CT F l s=f (a,ao,cg))(j:U cg)(n:∀l i d,bZ D l i F d->aU s (yielded all.toArray d.tmps)=m):aJ q D all s F l a ao:=by
 have key:∀g,y2 g ad F l s=f (a,ao,cg)->aJ q D all s F l a ao:=by
  intro g b;unfold y2 at b;split at b
  .rename_i r h;obtain⟨k,args,e⟩:=r;grind[A_,aJ.a1,SD]
  grind
 unfold vN at b;grind[abw]
def dS(aV:bn P ad)(J:a9 q CT){i}{ao}(a:hB ad CT bg all F l s=f (i,ao,cg))(A:U cg):aJ q D all s F l i (ao.getD l):=by
 have go:(∀l g d,bZ D l g F d->aU s (yielded all.toArray d.tmps)=m)->(match pD ad CT F l s with
  |some (b,cg)=>match u' bg s.dst b cg with
   |some (k,y)=>ps k λk=>f (k,p,y)
   |none=>p
  |none=>match Dq bg s.dst with
   |true=>match DS ad F s with
    |some (b,cg)=>ps b λb=>f (b,p,cg)
    |none=>p
   |false=>match vN bg ad CT F l s with
    |some (b,ao,cg)=>ps b λb=>f (b,f ao,cg)
    |none=>p)=f (i,ao,cg)->aJ q D all s F l i (ao.getD l):=by
  intro Q a;split at a
  .rename_i b e K;split at a
   .rename_i k z B;rw[vl]at a;cases a;obtain⟨rfl,M⟩:=Tu B A;grind[abA]
   grind
  split at a
  .split at a
   .rename_i b e j;rw[vl]at a;cases a;unfold DS at j;split at j
    .rename_i r x;obtain⟨I,args,o⟩:=r;grind[A_,SA]
    grind
   grind
  grind[vl,abx]
 unfold hB at a;simp only at a;split at a
 .grind [iZ]
 rename_i E t u;split at a
 .rename_i w n;have C:∀l g d,bZ D l g F d->aU s (yielded all.toArray d.tmps)=(f w==f t):=λl g d h=>by simp only[aU,u,yB n h]
  split at a
  .grind
  .grind
  cases a;refine aJ.hN (λl g d h=>(C l g d h).trans ?_);cases t<;>cases w<;>simp_all
 .rename_i n;cases a;exact aJ.hN (λl g d h=>by simp only[aU,u,yB n h];rfl)
 grind
end
variable {CT:n (Nat×bK)}{av:n ik}{be:fv}{ad:n (Nat×bv)}{a4:bv}
def mK(a:bI)(b:ap):Bool:=match b.op with
 |.load _ d=>match bF a d with
  |.p (.R (.c (.Q _)))=>v
  |_=>m
 |_=>v
def abz{fb}(d:mK F s=v):pD ad CT F l s=pD ad CT F fb s:=by
 unfold pD;split
 .rename_i o k a;simp[mK,a]at d;split at d
  .rename_i ai b;simp[DC,yL,b]
  grind
 simp
def abB{d}(j:mK F s=v)(a:hB ad CT bg all F l s=f (d,p,cg))(fb):
  hB ad CT bg all F fb s=f (d,p,cg):=by
 unfold hB at a⊢;simp only at a⊢;rw[abz (fb:=l) j];cases i:pD ad CT F l s with
 |some k=>grind
 |none=>
  simp[i]at a⊢;cases h:Dq bg s.dst with
  |true=>grind
  |false=>
   simp[h]at a⊢;have key:∀{g:Option (y×Option (n an)×n Prop)},(match vN bg ad CT F l s with|some (e,b,cg)=>ps e λe=>f (e,f b,cg)|none=>p)=g->g≠f (d,p,cg):=by grind[vl]
   split at a
   .grind
   grind
def jS(a:Nat):n ap->Bool
 |[]=>v
 |e::b=>match e.dst with
  |some d=>match af d a with|true=>m|false=>jS a b
  |none=>jS a b
theorem vq{o}:∀{d:n ap}{e:Nat}{a:ap},d[e]?=f a->a.dst=f o->jS o d=m
 |[],_,_,t,_=>by grind
 |h::g,0,a,t,b=>by simp at t;subst t;simp[jS,b,sL]
 |h::g,e+1,a,t,b=>by have:=vq (d:=g) wP b;simp[jS];grind
theorem Dc{o}:∀{b:n ap},jS o b=m->∃(e:Nat)(s:ap),b[e]?=f s/\s.dst=f o
 |[],t=>by cases t
 |d::j,t=>by
  simp[jS]at t;split at t
  .rename_i g r;split at t
   .rename_i h;exact⟨0,d,a,by grind[Nat.eq_of_beq_eq_true]⟩
   exact Rj
  exact Rj
def kU:n ap->Bool
 |[]=>m
 |d::a=>match d.dst with
  |some b=>match jS b a with|true=>v|false=>kU a
  |none=>kU a
theorem DQ{o}:∀{k:n ap}{g h:Nat}{b d:ap},kU k=m->k[g]?=f b->k[h]?=f d->b.dst=f o->d.dst=f o->g=h
 |[],_,_,_,_,_,t,_,_,_=>by grind
 |l::e,0,0,_,_,_,_,_,_,_=>rfl
 |l::e,0,h+1,b,d,a,i,j,d1,d2=>by simp at i;subst i;simp[kU,d1]at a;grind[vq]
 |l::e,g+1,0,b,d,a,i,j,d1,d2=>by simp at j;subst j;simp[kU,d2]at a;grind[vq]
 |l::e,g+1,h+1,b,d,a,i,j,d1,d2=>by
  have:kU e=m:=by simp[kU]at a;grind
  have r:e[g]?=f b:=N;have q:e[h]?=f d:=N;have s:=DQ this r q d1 d2;omega
def mS(a:n ap):bI->bI
 |[]=>[]
 |(d,e)::b=>match jS d a with|true=>mS a b|false=>(d,e)::mS a b
def tr{all}{o}:∀{b:bI},look (mS all b) o=if jS o all=m then .any else look b o
 |[]=>by simp[mS,look]
 |(a,i)::j=>by
  simp[mS];by_cases g:af a o=m
  .have h:=di g;subst h;cases e:jS a all with
   |true=>simp only;rw[tr];grind
   |false=>simp[look]
  have d:af a o=v:=N;cases e:jS a all with
  |true=>simp only;rw[tr];simp[look,d]
  |false=>simp[look,d,cond];rw[tr]
def c8:n Edge->n Nat
 |[]=>[]
 |b::a=>match b.ground with
  |.textOnly _=>c8 a
  |.gcOnly _=>c8 a
  |_=>b.on::c8 a
theorem l7{u}:∀{d:n Edge},u∈c8 d↔∃a∈d,eQ a=m/\a.on=u
 |[]=>by simp[c8]
 |a::b=>by
  have k:=l7 (u:=u) (d:=b);have h:c8 (a::b)=a.on::c8 b->eQ a=m->(u∈c8 (a::b)↔∃e∈a::b,eQ e=m/\e.on=u):=N;have g:c8 (a::b)=c8 b->eQ a=v->(u∈c8 (a::b)↔∃e∈a::b,eQ e=m/\e.on=u):=N;cases i:a.ground with
  |textOnly j=>exact g E_ N6
  |gcOnly j=>exact g E_ N6
  |_=>exact h E_ (by unfold eQ Region.binds;rw[i])
def nz(a b:Nat):n ap->Bool
 |[]=>v
 |e::d=>match e.dst with
  |some g=>match af g b with
   |true=>match ei a (c8 e.after.toList)with
    |true=>nz a b d
    |false=>m
   |false=>nz a b d
  |none=>nz a b d
def J5{e o}:∀{i:n ap},nz e o i=v->∀(d:Nat)a,i[d]?=f a->a.dst=f o->ei e (c8 a.after.toList)=m
 |[],_,d,a,b,_=>by grind
 |k::j,b,0,a,h,g=>by simp at h;subst h;simp[nz,g,sL]at b;grind
 |k::j,b,d+1,a,h,g=>by
  have:nz e o j=v:=by simp[nz]at b;grind
  exact J5 this d a N g
def oP(a:n ap):bI->n (Nat×y×Bool)
 |[]=>[]
 |(b,d)::e=>match jS b a with
  |true=>(b,d,m)::oP a e
  |false=>(b,d,v)::oP a e
def ha(b:Nat)(a:n ap):n (Nat×y×Bool)->bI
 |[]=>[]
 |(e,g,h)::d=>match h with
  |false=>(e,g)::ha b a d
  |true=>match nz b e a with
   |true=>ha b a d
   |false=>(e,g)::ha b a d
def KD{e}{all}{o}:∀{F:bI},look (ha e all (oP all F)) o=if jS o all=m/\nz e o all=m then .any else look F o
 |[]=>by simp[oP,ha,look]
 |(bz,b)::a=>by
  have h:=KD (e:=e) (all:=all) (o:=o) (F:=a);have g:look ((bz,b)::ha e all (oP all a)) o=if af bz o=m then b else look (ha e all (oP all a)) o:=RV;have d:look ((bz,b)::a) o=if af bz o=m then b else look a o:=RV;cases w:jS bz all with
  |false=>
   simp[oP,w,ha];exact uj
  |true=>
   cases aj:nz e bz all with
   |true=>
    exact OT
   |false=>
    exact OT
def fQ(d:Nat->Bool):Nat->n (Option Nat×y)->bI->bI
 |_,[],a=>a
 |b,(g,i)::e,a=>match d b with
  |true=>match g with
   |some h=>(h,i)::fQ d (b+1) e a
   |none=>fQ d (b+1) e a
  |false=>fQ d (b+1) e a
def vD{z:Nat->Bool}{F}{o}:∀{d:n (Option Nat×y)}{e:Nat},(∃u b,d[u]?=f (f o,b)/\z (e+u)=m/\look (fQ z e d F) o=b)∨look (fQ z e d F) o=look F o
 |[],e=>.inr rfl
 |(h,b)::g,e=>by
  have t:=vD (z:=z) (F:=F) (o:=o) (d:=g) (e:=e+1);have step:look (fQ z e ((h,b)::g) F) o=look (fQ z (e+1) g F) o->((∃u i,((h,b)::g)[u]?=f (f o,i)/\z (e+u)=m/\look (fQ z e ((h,b)::g) F) o=i)∨look (fQ z e ((h,b)::g) F) o=look F o):=by
   intro l;rw[l];rcases t with⟨u,i,s,j,B⟩|x
   .exact .inl ⟨u+1,i,by grind,by grind,B⟩
   grind
  cases k:z e with
  |false=>exact step (by simp[fQ,k])
  |true=>
   cases h with
   |none=>exact step (by simp[fQ,k])
   |some q=>
    by_cases w:af q o=m
    .have l:=di w;subst l;exact .inl ⟨0,b,a,by grind,by simp[fQ,k,look]⟩
    have r:af q o=v:=N;exact step (by simp[fQ,k,look,r])
structure k4 where
 a_:Nat
 pre:n (Option Nat×y)
 b:n an
 cd:n (n Bool)
 dC:n Bool
 dE:n Bool
 cB:n Prop
def ts(a:Nat):n Nat->Bool
 |[]=>m
 |b::d=>match Nat.blt b a with|true=>ts a d|false=>v
def DD{e}:∀{g:n Nat},ts e g=m->∀d∈g,d<e
 |[],_,d,b=>by grind
 |i::j,b,d,a=>by
  simp[ts]at b;cases h:Nat.blt i e with
  |false=>grind
  |true=>
   simp[h]at b;rcases fr.1 a with rfl|a
   .simp_all
   exact DD b d a
def gm:n Bool->Nat->Bool
 |[],_=>v
 |a::_,0=>a
 |_::d,b+1=>gm d b
def jV:n Bool->n Bool->n Bool
 |[],b=>b
 |true::a,[]=>m::a
 |false::a,[]=>v::a
 |true::a,_::b=>m::jV a b
 |false::a,m::b=>m::jV a b
 |false::a,v::b=>v::jV a b
def ql:∀{a b:n Bool}{d:Nat},gm (jV a b) d=(gm a d||gm b d)
 |[],b,d=>by exact cQ
 |true::a,[],d=>by simp[jV,gm]
 |false::a,[],d=>by simp[jV,gm]
 |true::a,e::b,0=>by exact cQ
 |true::a,e::b,d+1=>by simp[jV,gm];exact ql
 |false::a,m::b,0=>by exact cQ
 |false::a,m::b,d+1=>by simp[jV,gm];exact ql
 |false::a,v::b,0=>by exact cQ
 |false::a,v::b,d+1=>by simp[jV,gm];exact ql
def nJ:Nat->n Bool
 |0=>[m]
 |a+1=>v::nJ a
theorem xv:∀{b a:Nat},gm (nJ b) a=decide (b=a)
 |0,0=>rfl
 |0,a+1=>by exact cQ
 |b+1,0=>by exact cQ
 |b+1,a+1=>by simp only[nJ,gm,xv];simp
def lP(a:n (n Bool)):n Nat->n Bool
 |[]=>[]
 |b::d=>match c9 b a with
  |some e=>jV (jV e (nJ b)) (lP a d)
  |none=>jV (nJ b) (lP a d)
theorem B3{i}{u}:∀{k:n Nat},gm (lP i k) u=m->∃d∈k,d=u∨∃b,i[d]?=f b/\gm b u=m
 |[],a=>by exact cQ
 |d::l,a=>by
  simp[lP,ln]at a;have q2:∀{j:Nat},gm (nJ d) j=m->d=j:=by grind[xv]
  have h:gm (lP i l) u=m->∃g∈d::l,g=u∨∃b,i[g]?=f b/\gm b u=m:=by intro a;obtain⟨g,q,o⟩:=B3 a;grind
  split at a
  .rename_i b e;rw[ql,ql,jG,jG]at a;grind
  rw[ql,jG]at a;grind
def pP:n Bool->n Bool->Bool
 |[],_=>m
 |true::a,m::b=>pP a b
 |true::_,_=>v
 |false::a,_::b=>pP a b
 |false::a,[]=>pP a []
theorem tS:∀{b d:n Bool}{u:Nat},pP b d=m->gm b u=m->gm d u=m
 |[],d,u,_,a=>by exact cQ
 |true::b,m::d,0,_,_=>rfl
 |true::b,m::d,u+1,e,a=>by simp[gm]at a⊢;exact tS cQ a
 |true::b,v::d,u,e,_=>by exact cQ
 |true::b,[],u,e,_=>by exact cQ
 |false::b,g::d,0,_,a=>by exact cQ
 |false::b,g::d,u+1,e,a=>by simp[gm]at a⊢;exact tS cQ a
 |false::b,[],0,_,a=>by exact cQ
 |false::b,[],u+1,e,a=>by simp[gm]at a;have:=tS (u:=u) (by simpa[pP]using e) a;exact cQ
def pO(u:n (Nat×bv))(l:n (Nat×bK))(t:Nat)(q:n (Nat×Bool))(e:n ap)(k:n (Nat×y×Bool))(a:k4)(j:ap):Option k4:=
 match fg t j.dst with
 |false=>p
 |true=>
  eX (c8 j.after.toList) λh=>
  match ts a.a_ h with
  |false=>p
  |true=>match hB u l q e (fQ (λr=>ei r h) 0 a.pre (ha a.a_ e k)) a.b j with
   |none=>p
   |some (s,i,b)=>
    eX (lP a.cd h) λg=>
    match i,mK (fQ (λr=>ei r h) 0 a.pre (ha a.a_ e k)) j with
    |none,v=>eX (a.pre++[(j.dst,s)]) λpre=>eX (a.cd++[g]) λd=>eX (gD b a.cB) λb=>f ⟨a.a_+1,pre,a.b,d,a.dC,a.dE,b⟩
    |none,m=>match pP a.dC g with
     |true=>eX (a.pre++[(j.dst,s)]) λpre=>eX (a.cd++[g]) λd=>eX (gD b a.cB) λb=>eX (jV a.dE (nJ a.a_)) λo=>f ⟨a.a_+1,pre,a.b,d,a.dC,o,b⟩
     |false=>p
    |some i,_=>match pP a.dE g with
     |true=>eX (a.pre++[(j.dst,s)]) λpre=>eX (a.cd++[g]) λd=>eX (gD b a.cB) λb=>eX (jV a.dE (nJ a.a_)) λo=>eX (jV a.dC (nJ a.a_)) λw=>f ⟨a.a_+1,pre,i,d,w,o,b⟩
     |false=>p
def zd(j:n (Nat×bv))(d:n (Nat×bK))(i:Nat)(g:n (Nat×Bool))(a:n ap)(e:n (Nat×y×Bool)):n ap->k4->Option k4
 |[],b=>f b
 |k::l,b=>match pO j d i g a e b k with
  |some h=>zd j d i g a e l h
  |none=>p
def x'(k:n (Nat×bv))(d:n (Nat×bK))(j:Nat)(h:n (Nat×Bool))(a:n ap)(i:bI)(l:n an):Option (bI×n an×n Prop):=
 match kU a with
 |false=>p
 |true=>eX (oP a i) λg=>match zd k d j h a g a ⟨0,[],l,[],[],[],[]⟩with
  |some b=>eX (fQ (λ_=>m) 0 b.pre (mS a i)) λe=>f (e,b.b,b.cB)
  |none=>p
def ev:ap:=⟨p,.move (.tmp 0),0,"",#[],p⟩
section
variable (ad:n (Nat×bv))(CT:n (Nat×bK))(D:Nat)(bg:n (Nat×Bool))(all:n ap)(cH:n (Nat×y×Bool))
def jI(a:k4):Nat->k4
 |0=>a
 |b+1=>(pO ad CT D bg all cH (jI a b) (all.getD b ev)).getD (jI a b)
def qz(a:k4)(b:Nat):bI:=fQ (λd=>ei d (c8 (all.getD b ev).after.toList)) 0 (jI ad CT D bg all cH a b).pre (ha (jI ad CT D bg all cH a b).a_ all cH)
def zc(a:k4)(b:Nat):Option (y×Option (n an)×n Prop):=hB ad CT bg all (qz ad CT D bg all cH a b) (jI ad CT D bg all cH a b).b (all.getD b ev)
def q6(a:k4)(b:Nat):y:=match zc ad CT D bg all cH a b with|some (d,_,_)=>d|none=>.any
def jl(a:k4)(b:Nat):Bool:=match zc ad CT D bg all cH a b with|some (_,f _,_)=>m|_=>v
def qB(a:k4)(b:Nat):Bool:=!mK (qz ad CT D bg all cH a b) (all.getD b ev)&&!jl ad CT D bg all cH a b
def qp(a:k4)(b:Nat):n Bool:=lP (jI ad CT D bg all cH a b).cd (c8 (all.getD b ev).after.toList)
end
section
variable {ad:n (Nat×bv)}{CT:n (Nat×bK)}{D:Nat}{bg:n (Nat×Bool)}{all:n ap}{cH:n (Nat×y×Bool)}
structure Gi(ad:n (Nat×bv))(CT:n (Nat×bK))(D:Nat)(bg:n (Nat×Bool))(all:n ap)(cH:n (Nat×y×Bool))(b' r8:k4)(s:ap)(k:y)(ao:Option (n an))(cB:n Prop):Prop where
 dst:fg D s.dst=m
 lt:ts b'.a_ (c8 s.after.toList)=m
 op:hB ad CT bg all (fQ (λu=>ei u (c8 s.after.toList)) 0 b'.pre (ha b'.a_ all cH)) b'.b s=f (k,ao,cB)
 a_:r8.a_=b'.a_+1
 pre:r8.pre=b'.pre++[(s.dst,k)]
 cd:r8.cd=b'.cd++[lP b'.cd (c8 s.after.toList)]
 b:r8.b=ao.getD b'.b
 cB:r8.cB=gD cB b'.cB
 iL:r8.dC=if ao.isSome=m then jV b'.dC (nJ b'.a_)else b'.dC
 jB:r8.dE=if(mK (fQ (λu=>ei u (c8 s.after.toList)) 0 b'.pre (ha b'.a_ all cH)) s||ao.isSome)=m then jV b'.dE (nJ b'.a_)else b'.dE
 load:mK (fQ (λu=>ei u (c8 s.after.toList)) 0 b'.pre (ha b'.a_ all cH)) s=m->ao.isSome=v->pP b'.dC (lP b'.cd (c8 s.after.toList))=m
 cf:ao.isSome=m->pP b'.dE (lP b'.cd (c8 s.after.toList))=m
def MJ{b' h}(b:pO ad CT D bg all cH b' s=f h):∃k d g,Gi ad CT D bg all cH b' h s k d g:=by
 unfold pO at b;split at b
 .cases b
 rename_i j;simp[hv]at b;split at b
 .cases b
 rename_i i;split at b
 .cases b
 rename_i k d g e;refine⟨k,d,g,?_⟩;cases d with
 |none=>
  cases l:mK (fQ (λn=>ei n (c8 s.after.toList)) 0 b'.pre (ha b'.a_ all cH)) s with
  |false=>
   simp[l,hv]at b;cases b;exact⟨j,i,e,a,a,a,a,a,by simp,by grind,by grind,by simp⟩
  |true=>
   simp[l,hv]at b;split at b
   .rename_i r;cases b;exact⟨j,i,e,a,a,a,a,a,by simp,by grind,λ_ _=>r,by simp⟩
   grind
 |some d=>
  simp[hv]at b;split at b
  .rename_i r;cases b;exact⟨j,i,e,a,a,a,a,a,by simp,by simp,by simp,λ_=>r⟩
  grind
def Mc{b' d}:∀{bs:n ap}{h:Nat},(∀a,bs[a]?=all[h+a]?)->zd ad CT D bg all cH bs (jI ad CT D bg all cH b' h)=f d ->
  (∀a g,bs[a]?=f g->pO ad CT D bg all cH (jI ad CT D bg all cH b' (h+a)) g=f (jI ad CT D bg all cH b' (h+a+1)))/\jI ad CT D bg all cH b' (h+c bs)=d
 |[],h,_,b=>by cases b;grind
 |o::q,h,e,b=>by
  simp[zd]at b;have k:all[h]?=f o:=by have:=e 0;grind
  split at b
  .rename_i i j;have l:jI ad CT D bg all cH b' (h+1)=i:=by simp[jI,al,k,ir,j]
   rw[<-l]at b;obtain⟨s,r⟩:=Mc (bs:=q) (h:=h+1) (λa=>by have:=e (a+1);grind) b;grind
  grind
theorem qO:∀{a:n Nat},ei u a=m->u∈a:=by
 intro a;induction a with
 |nil=>intro b;cases b
 |cons d g e=>
  intro b;simp[ei]at b;exact uj
def TB{aS:ag P}(a5:P.follows Departure.mixedOrders=m)(aV:bn P ad)(aU:a9 aS CT){aR}(t:x' ad CT D bg aH.toList F l=f (aR,ao,cg))(bL:U cg){aP}(bF:aP .normal aR ao)(id):
  b2 aS D (.region id aH m) aP F l:=by
 unfold x' at t;split at t
 .cases t
 rename_i bo;rw[hv]at t;split at t
 case h_2=>cases t
 rename_i ai aF;rw[hv]at t;cases t;generalize bH:aH.toList=g at *;generalize aG:oP g F=cH at *;have bu:∀e:Nat,aH[e]?=g[e]?:=λe=>by grind
 have bc:aH.size=c g:=N;let k:k4:=⟨0,[],l,[],[],[],[]⟩
 obtain⟨bS,bT⟩:=Mc (ad:=ad) (CT:=CT) (D:=D) (bg:=bg) (cH:=cH) (b':=k) (bs:=g) (h:=0) (λe=>by simp) aF;simp only[cV]at bS bT;let j:=jI ad CT D bg g cH k;have aN:∀e s,g[e]?=f s->g.getD e ev=s:=λe s t=>by grind
 have aj:∀e s,g[e]?=f s->qz ad CT D bg g cH k e=(fQ (λi=>ei i (c8 (s).after.toList)) 0 (j e).pre (ha (j e).a_ g cH)):=λe s t=>by unfold qz;grind
 have C:∀e s,g[e]?=f s->∃bq,Gi ad CT D bg g cH (j e) (j (e+1)) s (q6 ad CT D bg g cH k e) (if jl ad CT D bg g cH k e=m then f (j (e+1)).b else p) bq:=by
  intro e s ck;obtain⟨aO,A,bq,n⟩:=MJ (bS e s ck);have aM:=n.op;have aA:zc ad CT D bg g cH k e=f (aO,A,bq):=by unfold zc qz;grind
  have bN:q6 ad CT D bg g cH k e=aO:=by unfold q6;rw[aA]
  cases A with
  |none=>
   have Q:jl ad CT D bg g cH k e=v:=by unfold jl;rw[aA]
   grind
  |some bk=>
   have Q:jl ad CT D bg g cH k e=m:=by unfold jl;rw[aA]
   have bO:(j (e+1)).b=bk:=n.b;grind
 have bt:∀e,e<=c g->(j e).a_=e:=by
  intro e;induction e with
  |zero=>intro _;rfl
  |succ e O=>
   intro bp;obtain⟨_,n⟩:=C e _ (bG x);rw[n.a_,O x]
 have W:∀e,e<=c g->∀i,(j e).pre[i]?=if i<e then(g[i]?).map (λs=>(s.dst,q6 ad CT D bg g cH k i))else p:=by
  intro e;induction e with
  |zero=>intro _ i;exact cQ
  |succ e O=>
   intro bp i;obtain⟨_,n⟩:=C e _ (bG x);have T:(j e).pre.length=e:=by
    apply Nat.le_antisymm
    .grind
    grind
   rw[n.pre];grind
 have ax:∀e,e<=c g->∀i,(j e).cd[i]?=if i<e then f (qp ad CT D bg g cH k i)else p:=by
  intro e;induction e with
  |zero=>intro _ i;exact cQ
  |succ e O=>
   intro bp i;obtain⟨_,n⟩:=C e _ (bG x);have T:(j e).cd.length=e:=by
    apply Nat.le_antisymm
    .apply Nat.le_of_not_lt;intro aL;have:=O x e;grind
    grind
   rw[n.cd];by_cases S:i<e
   .grind
   rw[hr x];by_cases q:i=e
   .subst q;rw[br x,T,uI];simp only[nc,qp,aN i _ (bG (by omega:i<c g))];rfl
   grind
 have bz:∀e,e<=c g->∀i,gm (j e).dC i=(decide (i<e)&&jl ad CT D bg g cH k i):=by
  intro e;induction e with
  |zero=>intro _ i;exact cQ
  |succ e O=>
   intro bp i;obtain⟨_,n⟩:=C e _ (bG x);rw[n.iL];cases Q:jl ad CT D bg g cH k e with
   |false=>
    grind
   |true=>
    simp only[dH,Option.isSome_some];rw[ql,O x i,xv,bt e x];by_cases q:i=e
    .grind
    grind
 have bf:∀e,e<=c g->∀i,gm (j e).dE i=(decide (i<e)&&!qB ad CT D bg g cH k i):=by
  intro e;induction e with
  |zero=>intro _ i;exact cQ
  |succ e O=>
   intro bp i;obtain⟨_,n⟩:=C e _ (bG x);have ah:(if jl ad CT D bg g cH k e=m then f (j (e+1)).b else p).isSome=jl ad CT D bg g cH k e:=by cases jl ad CT D bg g cH k e<;>rfl
   have aq:qB ad CT D bg g cH k e=!(mK (fQ (λi=>ei i (c8 (g[e]'x).after.toList)) 0 (j e).pre (ha (j e).a_ g cH)) (g[e]'x)||jl ad CT D bg g cH k e):=by unfold qB;rw[aj e _ (bG x),aN e _ (bG x)];simp
   rw[n.jB,ah];cases Q:(mK (fQ (λi=>ei i (c8 (g[e]'x).after.toList)) 0 (j e).pre (ha (j e).a_ g cH)) (g[e]'x)||jl ad CT D bg g cH k e)with
   |false=>
    grind
   |true=>
    simp only[dH];rw[ql,O x i,xv,bt e x];by_cases q:i=e
    .grind
    grind
 have V:∀e,e<=c g->U (j e).cB:=by
  have aw:∀h e,e+h=c g->U (j e).cB:=by
   intro h;induction h with
   |zero=>
    grind
   |succ h O=>
    intro e bp;obtain⟨_,n⟩:=C e _ (bG x);have:=O (e+1) x;rw[n.cB,U.Y]at this;exact this.2
  intro e bp;exact aw (c g-e) e x
 have b5:∀e s,g[e]?=f s->aJ aS D g s (qz ad CT D bg g cH k e) (j e).b (q6 ad CT D bg g cH k e) (j (e+1)).b:=by intro e s ck;have bp:e<c g:=(cO.1 ck).1;obtain⟨_,n⟩:=C e s ck;have nA:=V (e+1) x;rw[n.cB,U.Y]at nA;have:=dS (P:=P) (D:=D) aV aU n.op nA.1;rw[n.b];grind
 let idx:Nat->Option Nat:=λo=>(aB (c g)).find? (λe=>decide ((g.getD e ev).dst=f o));have b6:∀o i,idx o=f i->∃s,g[i]?=f s/\s.dst=f o:=N;have bR:∀e s az,g[e]?=f s->s.dst=f az->idx az=f e:=by
  intro e s az ck M;have bp:e<c g:=(cO.1 ck).1;cases bN:idx az with
  |none=>
   grind
  |some i=>
   grind[DQ]
 have b9:∀o,jS o g=m↔∃i,idx o=f i:=by grind[Dc,vq]
 have b8:∀e s,g[e]?=f s->∀q∈s.after,eQ q=m->q.on<e:=by intro e s ck q Q Y;have bp:e<c g:=(cO.1 ck).1;obtain⟨_,n⟩:=C e s ck;have:=DD n.lt q.on (l7.2 ⟨q,by grind,Y,rfl⟩);grind
 have bm:=b8;have M:rk aS D aH F (λe=>(j e).b) (q6 ad CT D bg g cH k) (qz ad CT D bg g cH k) (qB ad CT D bg g cH k) (λe=>decide (e<c g)&&jl ad CT D bg g cH k e) (λe i=>e<c g/\gm (qp ad CT D bg g cH k e) i=m) idx (fQ (λ_=>m) 0 ai.pre (mS g F)):=by
  refine⟨a5,N,?_,?_,?_,?_,?_,?_,?_,?_,?_⟩
  .intro e s az ck M;rw[bu]at ck;obtain⟨_,n⟩:=C e s ck;exact⟨bR e s az ck M,lg n.dst az M⟩
  .grind
  .intro e Q;rcases d6 e (c g) with bp|bp
   .obtain⟨_,n⟩:=C e _ (bG bp);have:jl ad CT D bg g cH k e=v:=N;have b4:=n.b;grind
   have bB:g.getD e ev=ev:=N;show(j (e+1)).b=(j e).b;have:pO ad CT D bg g cH (j e) ev=p∨∃aK,pO ad CT D bg g cH (j e) ev=f aK:=by
    cases pO ad CT D bg g cH (j e) ev with
    |none=>grind
    |some aK=>grind
   show((pO ad CT D bg g cH (j e) (g.getD e ev)).getD (j e)).b=(j e).b;rw[bB];rcases this with t|⟨aK,t⟩
   .grind
   rw[t];obtain⟨aO,A,bP,n⟩:=MJ t;have aM:=n.op;have:A=p:=by unfold hB at aM;simp only[ev,pD,y1,u',vl]at aM;grind
   rw[ir,n.b,this];rfl
  .grind
  .intro e s ck ae;rw[bu]at ck;have bp:e<c g:=(cO.1 ck).1;have aI:mK (fQ (λi=>ei i (c8 (s).after.toList)) 0 (j e).pre (ha (j e).a_ g cH)) s=v/\jl ad CT D bg g cH k e=v:=by unfold qB at ae;grind
   refine⟨by grind,λh=>?_⟩;obtain⟨bP,n⟩:=C e s ck;have aM:=n.op;rw[aI.2]at aM;have aE:=abB aI.1 (by simpa using aM) (j h).b;have nA:=V (e+1) x;rw[n.cB,U.Y]at nA;have:=dS (P:=P) (D:=D) aV aU aE nA.1;grind
  .intro L cd e i ⟨bp,Y⟩;have ak:∀e,e<c g->L e->∀q,q∈c8 (g.getD e ev).after.toList->L q:=by intro e bp an q Q;rw[aN e _ (bG bp)]at Q;obtain⟨bx,r,u,rfl⟩:=l7.1 Q;grind
   have key:∀e,e<c g->∀i,gm (qp ad CT D bg g cH k e) i=m->(∀q∈c8 (g.getD e ev).after.toList,L q)->L i:=by
    intro e;induction e using Nat.strongRecOn with
    |_ e O=>
     intro bp i Y aX;obtain⟨q,Q,t⟩:=B3 Y;have aL:q<e:=by have R:=Q;rw[aN e _ (bG bp)]at R;obtain⟨bx,r,u,rfl⟩:=l7.1 R;grind
     rcases t with rfl|⟨bV,bI,a1⟩
     .grind
     have:=ax e x q;rw[br aL]at this;have a0:(j e).cd[q]?=f bV:=bI;rw[a0]at this;cases this;exact O q aL x i a1 (ak q x (aX q Q))
   refine⟨λan=>key e bp i Y (ak e bp an),g[e],by grind,λbM=>key e bp i Y ?_⟩;grind[List.getElem?_eq_getElem,l7]
  .intro e Z bp y Q b0 au;rw[bc]at bp y;have R:jl ad CT D bg g cH k Z=m:=N;rcases d6 Z e with aL|bZ
   .refine .inl ⟨aL,bp,?_⟩;obtain⟨_,n⟩:=C e _ (bG bp);have K:qp ad CT D bg g cH k e=lP (j e).cd (c8 (g[e]).after.toList):=by unfold qp;grind
    rw[K];cases a3:jl ad CT D bg g cH k e with
    |true=>
     have r:=n.cf N;refine tS r ?_;rw[bf e x Z];have:qB ad CT D bg g cH k Z=v:=by unfold qB;grind
     grind
    |false=>
     have a8:mK (fQ (λi=>ei i (c8 (g[e]).after.toList)) 0 (j e).pre (ha (j e).a_ g cH)) g[e]=m:=by unfold qB at au;rw[aj e _ (bG bp),aN e _ (bG bp),a3]at au;grind
     have r:=n.load a8 N;grind[tS]
   have aL:e<Z:=x;refine .inr ⟨aL,y,?_⟩;obtain⟨_,n⟩:=C Z _ (bG y);have K:qp ad CT D bg g cH k Z=lP (j Z).cd (c8 (g[Z]).after.toList):=by unfold qp;grind
   rw[K];have r:=n.cf N;grind[tS]
  .intro e s ck o l b aa ab;rw[bu]at ck;have bp:e<c g:=(cO.1 ck).1;unfold qz;rw[aN e s ck];rcases vD (z:=λi=>ei i (c8 s.after.toList)) (F:=ha (j e).a_ g cH) (o:=o) (d:=(j e).pre) (e:=0)with⟨i,aO,r,u,w⟩|w
   .have J:look (fQ (λi=>ei i (c8 s.after.toList)) 0 (jI ad CT D bg g cH k e).pre (ha (jI ad CT D bg g cH k e).a_ g cH)) o=aO:=w;rw[J];have B:=W e x i;rw[r]at B;have S:i<e:=N;rw[br S,bG (by omega:i<c g)]at B;simp only[lJ,eW,lK]at B;obtain⟨bb,b3⟩:=B;have aQ:=bR i _ o (bG (by omega:i<c g)) bb.symm;rw[aQ]at ab;simp only at ab;rw[br]at ab
    .grind
    have aD:i∈c8 s.after.toList:=by simp only[cV]at u;exact qO u
    obtain⟨q,bU,b_,bV⟩:=l7.1 aD;grind
   have J:look (fQ (λi=>ei i (c8 s.after.toList)) 0 (jI ad CT D bg g cH k e).pre (ha (jI ad CT D bg g cH k e).a_ g cH)) o=look (ha (j e).a_ g cH) o:=w;rw[J,bt e x,<-aG,KD];split
   .trivial
   rename_i b1;cases aQ:idx o with
   |some i=>
    have cc:=(b9 o).2 ⟨i,aQ⟩;have bD:nz e o g=v:=N;obtain⟨bh,ba,a2⟩:=b6 o i aQ;have bK:=qO (J5 bD i bh ba a2);obtain⟨q,Q,Y,heq⟩:=l7.1 bK;rw[aQ]at ab;simp only at ab;split at ab
    ·
     rename_i a4;obtain⟨cb,bX,bW,bJ⟩:=a4;grind
    rw[br ⟨bh,by grind,q,by grind,Y,heq⟩]at ab;exact ab
   |none=>grind
  intro o l b aa ab;have bC:j (c g)=ai:=bT;rcases vD (z:=λ_=>m) (F:=mS g F) (o:=o) (d:=ai.pre) (e:=0)with⟨i,aO,r,_,w⟩|w
  .rw[w];have B:=W (c g) (bE _) i;rw[bC,r]at B;have S:i<c g:=N;grind
  rw[w,tr];split
  .trivial
  grind
 intro b bU aq a6 b_ cf ca b7 Y aZ;have aW:j aH.size=ai:=N;refine .next a λI H=>?_;have H:=aS.bO H;have G:=a6.rely H;have aC:=aq.rely H a6;have X:cN l I l {I with a:={I.a with drawn:=I.a.drawn+1}}:=cN.same rfl rfl rfl rfl;have ar:bd l {I with a:={I.a with drawn:=I.a.drawn+1}}:=G.same rfl;have bj:=H.aY.trans (X.too' G);refine⟨_,{I with a:={I.a with drawn:=I.a.drawn+1}},#[],Es,⟨⟨l,l,G,ar,X⟩,.nil⟩,?_⟩;simp only[Region.schedule,a5,Bool.true_or,dH];refine M.eT Y (cG:={I with a:={I.a with drawn:=I.a.drawn+1}}) (λbQ bw aT u av=>?_) aH.size _ E ?_ ?_ 0 _ bU x ?_ ?_ ar (.refl _ _) _
 .simp only[aW]at aT u av;exact aZ .normal _ _ bQ bw bF aT u (bj.trans av)
 .simp
 .exact FA
 .intro Z y bY;exact wF
 have aI:=aC.mono (X.too' G) G.len;refine⟨aI.size,aI.defers,λo=>?_⟩;unfold gz;cases aQ:idx o with
 |none=>exact aI.aK o
 |some i=>
  simp only;rw[bl]
  .exact aI.aK o
  exact wF
end
section
variable {q:ag P}
theorem g.iJ(e:P.follows Departure.mixedOrders=m)(aV:bn P ad)(b:a9 q CT){a}{id}(h:x' ad CT D bg aH.toList F l=f (a,ao,cg))(d:U cg)(i:g q D be av .normal a ao):g q D be (.code (.region id aH m)::av) .normal F l:=
 TB e aV b h d i id
end
def r9(x:n (Nat×bv))(o:n (Nat×bK))(k:n (Nat×Bool))(w:Nat)(b:n ik)(a:bI)(e:n an):Option (n ik×bI×n an×n Prop):=
 match b with
 |[]=>p
 |.blk _::b=>f (b,a,e,[])
 |.aj _ []::b=>f (b,a,e,[])
 |.aj g (q::i)::b=>match fg w q.dst with
  |true=>match hB x o k g a e q with
   |some (l,p,d)=>eX (fW q.dst l a) λa=>f (.aj g i::b,a,e,d)
   |some (l,f j,d)=>eX (fW q.dst l a) λa=>f (.aj g i::b,a,j,d)
   |none=>p
  |false=>p
 |.code t::b=>match t with
  |.skip=>f (b,a,e,[])
  |.seq l u=>f (.code l::.code u::b,a,e,[])
  |.block id t=>f (.code t::.blk id::b,a,e,[])
  |.region id h y=>match vC k (id+900)with
   |some _=>p
   |none=>match y with
    |false=>f (.aj h.toList h.toList::b,a,e,[])
    |true=>match x' x o w k h.toList a e with
     |some (r,j,d)=>f (b,r,j,d)
     |none=>p
  |.exit id=>match iP id b with
   |some s=>f (s,a,e,[])
   |none=>p
  |.cond (.tmp z) l u=>match look a z with
   |.p (.R (.c (.bool m)))=>f (.code l::b,a,e,[])
   |.p (.R (.c (.bool v)))=>f (.code u::b,a,e,[])
   |_=>p
  |_=>p
theorem adt{d:ag P}(o:P.follows Departure.mixedOrders=m)(aV:bn P ad)(aj:a9 d CT){B}{a}(t:r9 ad CT bg D av F l=f (B,a,ao,cg))(ck:U cg)(h:g d D be B .normal a ao):g d D be av .normal F l:=by
 unfold r9 at t;split at t
 .cases t
 .grind [g.ix]
 .grind [g.hM]
 .rename_i all s bs b;cases e:fg D s.dst with
  |false=>grind
  |true=>
   simp[e]at t;have ae:=lg e;split at t
   .rename_i k j i;exact Q9
   .rename_i k aO j i;exact Q9
   grind
 rename_i n b;split at t
 .grind [g.skip]
 .grind [g.seq]
 .grind [g.block]
 .grind [g.region,g.iJ]
 .grind [g.exit]
 .grind [g.cond]
 grind
def kY(l:n (Nat×bv))(b:n (Nat×bK))(d:n (Nat×Bool))(k:Nat):Nat->n ik->bI->n an->n Prop->Option (n ik×bI×n an×n Prop)
 |0,g,e,h,a=>eX a λa=>f (g,e,h,a)
 |q+1,g,e,h,a=>match r9 l b d k g e h with
  |some (o,i,j,r)=>kY l b d k q o i j (gD r a)
  |none=>eX a λa=>f (g,e,h,a)
def Mb{P}{q:ag P}(u:P.follows Departure.mixedOrders=m){ad}(aV:bn P ad){CT}(w:a9 q CT){bg}{D}{be}:∀{s:Nat}{i o:n ik}{h d:bI}{j e:n an}{b a:n Prop},
  kY ad CT bg D s i h j b=f (o,d,e,a)->U a->g q D be o .normal d e->g q D be i .normal h j/\U b
 |0,i,o,h,d,j,e,b,a,k,l,r=>by simp[kY,hv]at k;grind
 |s+1,i,o,h,d,j,e,b,a,k,l,r=>by
  simp[kY]at k;cases x:r9 ad CT bg D i h j with
  |none=>
   grind[hv]
  |some y=>
   obtain⟨A,z,t,E⟩:=y;simp[x]at k;obtain⟨C,B⟩:=Mb u aV w k l r;grind[U.Y,adt]
def g.aR{b:ag P}(k:P.follows Departure.mixedOrders=m)(aV:bn P ad)(d:a9 b CT)(bg)(j){i}{a}{h}(n:AM.kY ad CT bg D j av F l []=f (i,a,ao,h))(e:U h)(o:g b D be i .normal a ao):g b D be av .normal F l:=(Mb k aV d n e o).1
section
variable {q:ag P}
def pK(e:n ResultVar)(b:n Nat)(g:bI)(a:y):Option (n Prop):=
 match oU g e with
 |some d=>match py d with
  |some h=>match hN (c b) a with
   |true=>kq h (e' b a)
   |false=>p
  |none=>p
 |none=>p
def g.aM{fn}{w}{res}(aS)(t:pK fn.results.toList aS F res=f ab)(I:U ab)(bT:∀u,u<w->aS[u]?=f u)(r:dy aS l=f ao:=by exact rfl)(i:l9 ao=m:=by exact rfl)(jn:e_ aS=m:=by exact rfl):
  g q D (bX fn w res ao) (.code .ret::av) .normal F l:=by refine g.ret ⟨.inl a,aS,?_⟩;unfold pK at t;grind
def g.ar{fn}{res}(t:pK fn.results.toList [] F res=f ab)(w:U ab:=by simp):g q D (bX fn 0 res []) (.code .ret::av) .normal F l:=
 g.aM [] t w (λu t=>by omega)
def bX.zero{fn}{res}(t:pK fn.results.toList [] F res=f ab)(r:U ab:=by simp):bX fn 0 res [] .ret F l:=by
 refine⟨.inl a,[],?_⟩;unfold pK at t;split at t
 .rename_i bg Y';split at t
  .rename_i I i;split at t
   .rename_i w;exact⟨bg,I,ab,Y',i,t,r,w,a,a,a,λu t=>by omega⟩
   grind
  grind
 grind
def g.bt{id}{Q:bI->n an->Prop}{AF}{d B}(j:iP id av=p)(k:iP id d=f B)(w:g q D AF B .normal F l):
  g q D (λh b e=>match h with
   |.normal=>Q b e
   |h=>g q D AF d h b e) (.code (.exit id)::av) .normal F l:=by
 have key:∀{av:n ik},iP id av=p->∀{aP:fv},aP (.exit id) F l->g q D aP av (.exit id) F l:=by
  intro av;induction av with
  |nil=>intro _ aP i;exact i
  |cons u A r=>
   intro a aP i;cases u with
   |code z=>exact r (by simpa[iP]using a) i
   |aj x y=>exact r (by simpa[iP]using a) i
   |blk s=>
    simp[iP]at a;cases o:af id s with
    |true=>grind
    |false=>
     simp[o]at a;have t:id≠s:=λh=>by grind[Nat.beq_refl]
     simp[g,t,dh];grind
 exact b2.exit (key j (g.toExit k w))
def g.bS{Q:bI->n an->Prop}{a}{h}(i:a .ret F l):
  g q D (λe b d=>match e with
   |.normal=>Q b d
   |e=>g q D a h e b d) (.code .ret::av) .normal F l:=g.ret (g.dO (be:=a) i)
def g.again{h:Type}{r:h->Prop}{d:h->bI}{e:h->n an}{i:h->Nat}{k}{j:fv}(X)(u:iT F (d X)=f ab)(w:U ab)(x:r X)(t:i X<i k)(s:l=e X):
  g q D (λo a b=>match o with
   |.normal=>∃X,r X/\i X<i k/\iD a (d X)/\b=e X
   |o=>j o a b) [] .normal F l:=⟨X,x,t,eH u w,s⟩
def g.en{i:Type}(h:i->Prop)(a:i->bI)(b:i->n an)(o:i->Nat)(k)(u:iT F (a k)=f ab)(w:U ab)(x:h k)(t:b k=l)(round:∀k,h k->g q D (λs d e=>match s with
   |.normal=>∃j,h j/\o j<o k/\iD d (a j)/\e=b j
   |s=>g q D be av s d e) [.code r] .normal (a k) (b k)):g q D be (.code (.loop r)::av) .normal F l:=
 g.loop h a b o k x (eH u w) t round
def kF(args:n y)(a:n an):Prop:=∃b A,b6 a b A args/\bd a b
def kF.at{args}(e:kF args l){a}(g:args[u]?=f a):∃b h,bx l b h a:=by obtain⟨b,A,d,_⟩:=e;obtain⟨_,i⟩:=b6.get d;grind
def kF.T{args}{l}(e:kF args l)(h:Nat){d}(a:args[h]?=f (aw (.T d))):c d<=9223372036854775807:=by
 obtain⟨i,j,g⟩:=e.at a;cases b8 g with
 |T e b=>exact b
def kF.C{args}{l}(g:kF args l)(k:Nat){o}{h j}{a:Nat->n O}(b:args[k]?=f (aw (.C o h j a))):j<=9223372036854775807:=by
 obtain⟨t,u,e⟩:=g.at b;cases b8 e with
 |C r d s q i=>omega
def Y.body{i}{fn}{args}{res}(h:P.funcs[i]?=f fn)(e:(fn.name== "runtime.NumGoroutine")=v)(d:fn.body=f r)(k:ay args.length fn.ntmps=m)(n:kF args l->g q fn.ntmps (bX fn l.length res ao) [.code r] .normal (h3 0 args) l):Y q i args l res ao:=by refine⟨⟨fn,h,e,by grind⟩,λj A b a=>?_⟩;exact(Y.intro h e d (fe k) (g.aT (n ⟨j,A,b,a⟩))).2 j A b a
def Y.K{b}{fn}{r}{args}{l ao}{res}(d:P.funcs[b]?=f fn)(a:(fn.name== "runtime.NumGoroutine",fn.body,ay args.length fn.ntmps)=(v,f r,m))(e:kF args l->g q fn.ntmps (bX fn l.length res ao) [.code r] .normal (h3 0 args) l):Y q b args l res ao:=by simp only[lK]at a;exact Y.body d a.1 a.2.1 a.2.2 e
def g.cn{i}(a)(ao)(j:(∀h(b:n Prop),iT h a=f b->U b->g q D be (.code r::i) .normal h ao)->g q D be av .normal F l)(k:g q D be (.code r::i) .normal a ao):g q D be av .normal F l:=
 j λ_ _ d e=>b2.le k (eH d e)
end
def hz{e}(a:P.types[o]?=f e):P.info? o=f e:=by unfold Tables.info?;rw[br (je.1 a).1];exact a
def bn.nil:bn P []:=λ_ _ a=>by cases a
def bn.cons{e}(g:dR P o e)(h:bn P ad):bn P ((o,e)::ad):=by
 intro d cd a;simp only[b1]at a;cases b:af o d with
 |true=>rw[b]at a;cases a;rw[<-di b];exact g
 |false=>rw[b]at a;exact h d cd a
def dR.jz{e}{j}(t:P.underlying o=f e.desc)(h:P.types[o]?=f j)(w:(yI e.desc==e.agg&&j.size==e.size&&j.bytes==e.bytes&&(!e.agg||j.zero.any λcL=>match cL with|.agg _=>m|_=>v)&&c e.zero==e.size&&e.eq.isEmpty)=m:=by rfl)(i:j.zero.map (λcL=>cL.cells.toList.map lL)=f (e.zero.map f):=by rfl):dR P o e:=by
 simp only[cC,gZ,List.isEmpty_iff]at w;obtain⟨⟨⟨⟨⟨jD,jd⟩,w6⟩,AI⟩,Sg⟩,Sh⟩:=w;cases r:j.zero with
 |none=>rw[r]at i;cases i
 |some cL=>
  rw[r]at i AI;refine⟨t,jD,⟨j,cL,hz h,jd,w6,r,ry i,?_,Sg⟩,λt=>absurd Sh t⟩;cases I:e.agg with
  |false=>exact⟨#[],rfl⟩
  |true=>
   rw[I]at AI;cases cL<;>first|exact⟨_,rfl⟩|cases AI
def bn.ay{e}{j}(t:P.underlying o=f e.desc)(h:P.types[o]?=f j)(bb:bn P ad)(w:(yI e.desc==e.agg&&j.size==e.size&&j.bytes==e.bytes&&(!e.agg||j.zero.any λcL=>match cL with|.agg _=>m|_=>v)&&c e.zero==e.size&&e.eq.isEmpty)=m:=by rfl)(i:j.zero.map (λcL=>cL.cells.toList.map lL)=f (e.zero.map f):=by rfl):bn P ((o,e)::ad):=bn.cons (dR.jz t h w i) bb
namespace R1
abbrev lu:= "loop.example/depositary/impl"
abbrev Lg:= "loop.example/depositary/spec"
abbrev b3(a:String)(b d:Nat)(e:String)(g:Nat)(h:Bool:=v):Field:={name:=a,type:=b,offset:=d,embedded:=h,tag:= "",pkgPath:=e,byteOffset:=g}
abbrev gN:O:=.C m 0 0 (λ_=>[])
@[simp] def j3(a:aq):bv:=⟨1,24,v,.slice a,[gN],[]⟩
@[simp] def kB(a:aq):bv:=⟨1,8,v,.pointer a,[.bb],[]⟩
@[simp] def j2(b:Nat)(a:IntKind):bv:=⟨1,b,v,.int a,[.int a 0],[]⟩
@[simp] def fH(e a:Nat)(d:Array Field)(g:n O)(b:n TypeDesc:=[]):bv:=⟨e,a,m,.struct d,g,b⟩
def cd:bv:=j2 8 .i64
def ef:bv:=j2 8 .i64
def fz:bv:=⟨1,1,v,TypeDesc.bool,[.bool v],[]⟩
def aag:bv:=j2 1 .u8
def aai:bv:=j2 1 .u8
def aal:bv:=fH 4 24 #[b3 "x" 2 0 "runtime" 0,b3 "y" 3 1 "runtime" 8,b3 "signed" 4 2 "runtime" 16,b3 "code" 6 3 "runtime" 17] [.int .i64 0,.int .i64 0,.bool v,.int .u8 0]
def i8:bv:=fH 4 24 #[b3 "x" 2 0 "runtime" 0,b3 "y" 3 1 "runtime" 8,b3 "signed" 4 2 "runtime" 16,b3 "code" 6 3 "runtime" 17] [.int .i64 0,.int .i64 0,.bool v,.int .u8 0]
def te:bv:=⟨1,16,v,TypeDesc.string,[.T []],[]⟩
def Zj:bv:=j2 8 .u64
def i16:bv:=kB 397
def Zm:bv:=kB 404
def Zs:bv:=⟨1,16,v,TypeDesc.interface #[],[.br],[]⟩
def Zu:bv:=j2 4 .i32
def Zx:bv:=j3 5
def ZB:bv:=j3 105
def ZG:bv:=j3 129
def ZK:bv:=j3 109
def ZN:bv:=fH 3 72 #[b3 "Packs" 23 0 "" 0,b3 "Snaps" 24 1 "" 24,b3 "Log" 25 2 "" 48] [gN,gN,gN]
def ZP:bv:=j3 3
def ZU:bv:=fH 5 120 #[b3 "Store" 27 0 "" 0,b3 "Marks" 28 3 "" 72,b3 "Left" 28 4 "" 96] [gN,gN,gN,gN,gN]
def i32:bv:=fH 4 40 #[b3 "Kind" 3 0 "" 0,b3 "N" 3 1 "" 8,b3 "M" 3 2 "" 16,b3 "Body" 9 3 "" 24] [.int .i64 0,.int .i64 0,.int .i64 0,.T []] [.int .i64,.int .i64,.int .i64,.string]
def Y2:dR T 32 i32:=⟨underlying32,rfl,⟨_,_,hz type32,rfl,rfl,rfl,rfl,⟨_,rfl⟩,rfl⟩,λ_=>oz (h8:=[b3 "Kind" 3 0 "" 0,b3 "N" 3 1 "" 8,b3 "M" 3 2 "" 16,b3 "Body" 9 3 "" 24]) underlying32 nW eqGuardType32 ⟨by decide,rfl,underlying3,C,by decide,rfl,underlying3,C,by decide,rfl,underlying3,C,by decide,rfl,underlying9,C,C⟩⟩
def ZZ:bv:=j3 46
def Z3:bv:=fH 12 216 #[b3 "Key" 3 0 "" 0,b3 "Sweep" 30 1 "" 8,b3 "Lie" 32 6 "" 128,b3 "Keeps" 33 10 "" 168,b3 "Found" 28 11 "" 192] [.int .i64 0,gN,gN,gN,gN,gN,.int .i64 0,.int .i64 0,.int .i64 0,.T [],gN,gN]
def Dj:bv:=j3 53
def Z9:bv:=fH 8 104 #[b3 "Kind" 3 0 "" 0,b3 "By" 3 1 "" 8,b3 "Tree" 36 2 "" 16,b3 "Lie" 32 3 "" 40,b3 "Keep" 28 7 "" 80] [.int .i64 0,.int .i64 0,gN,.int .i64 0,.int .i64 0,.int .i64 0,.T [],gN]
def yE:bv:=fH 2 16 #[b3 "Long" 3 0 "" 0,b3 "Sum" 3 1 "" 8] [.int .i64 0,.int .i64 0] [.int .i64,.int .i64]
def Y5:dR T 46 yE:=⟨underlying46,rfl,⟨_,_,hz type46,rfl,rfl,rfl,rfl,⟨_,rfl⟩,rfl⟩,λ_=>oz (h8:=[b3 "Long" 3 0 "" 0,b3 "Sum" 3 1 "" 8]) underlying46 nW eqGuardType46 ⟨by decide,rfl,underlying3,C,by decide,rfl,underlying3,C,C⟩⟩
def qF:bv:=fH 2 32 #[b3 "Path" 9 0 "" 0,b3 "Text" 9 1 "" 16] [.T [],.T []] [.string,.string]
def Y6:dR T 53 qF:=⟨underlying53,rfl,⟨_,_,hz type53,rfl,rfl,rfl,rfl,⟨_,rfl⟩,rfl⟩,λ_=>oz (h8:=[b3 "Path" 9 0 "" 0,b3 "Text" 9 1 "" 16]) underlying53 nW eqGuardType53 ⟨by decide,rfl,underlying9,C,by decide,rfl,underlying9,C,C⟩⟩
def aah:bv:=kB 82
def aaj:bv:=⟨1,8,v,TypeDesc.func #[63,38] #[4] v,[.dd],[]⟩
def aak:bv:=kB 35
def i64:bv:=j3 61
def aam:bv:=kB 115
def aan:bv:=j3 9
def aao:bv:=fH 2 32 #[b3 "b" 22 0 Lg 0,b3 "p" 3 1 Lg 24] [gN,.int .i64 0]
def Dh:bv:=j3 153
def nB:bv:=fH 2 32 #[b3 "No" 3 0 "" 0,b3 "Item" 103 1 "" 8] [.int .i64 0,gN]
def td:bv:=fH 2 16 #[b3 "By" 3 0 "" 0,b3 "Snap" 3 1 "" 8] [.int .i64 0,.int .i64 0] [.int .i64,.int .i64]
def YW:dR T 109 td:=⟨underlying109,rfl,⟨_,_,hz type109,rfl,rfl,rfl,rfl,⟨_,rfl⟩,rfl⟩,λ_=>oz (h8:=[b3 "By" 3 0 "" 0,b3 "Snap" 3 1 "" 8]) underlying109 nW eqGuardType109 ⟨by decide,rfl,underlying3,C,by decide,rfl,underlying3,C,C⟩⟩
def Zh:bv:=fH 3 24 #[b3 "head" 109 0 lu 0,b3 "next" 72 2 lu 16] [.int .i64 0,.int .i64 0,.bb]
def Zi:bv:=kB 27
def Zk:bv:=j3 168
def rP:bv:=fH 2 32 #[b3 "No" 3 0 "" 0,b3 "All" 127 1 "" 8] [.int .i64 0,gN]
def l1:bv:=fH 2 24 #[b3 "Name" 3 0 "" 0,b3 "Body" 9 1 "" 8] [.int .i64 0,.T []] [.int .i64,.string]
def YY:dR T 153 l1:=⟨underlying153,rfl,⟨_,_,hz type153,rfl,rfl,rfl,rfl,⟨_,rfl⟩,rfl⟩,λ_=>oz (h8:=[b3 "Name" 3 0 "" 0,b3 "Body" 9 1 "" 8]) underlying153 nW eqGuardType153 ⟨by decide,rfl,underlying3,C,by decide,rfl,underlying9,C,C⟩⟩
def yC:bv:=fH 2 40 #[b3 "Path" 9 0 "" 0,b3 "Names" 28 1 "" 16] [.T [],gN]
def Zl:bv:=j3 105
def Zn:bv:=fH 3 72 #[b3 "packed" 169 0 lu 0 m,b3 "snaps" 24 1 lu 24,b3 "log" 25 2 lu 48] [gN,gN,gN]
def Zo:bv:=⟨1,16,v,TypeDesc.interface #[("Error",310)],[.br],[]⟩
def Zp:bv:=kB 212
def Zq:bv:=kB 182
def Zr:bv:=kB 30
def Zt:bv:=j3 253
def Kc:bv:=fH 1 16 #[b3 "what" 9 0 lu 0] [.T []] [.string]
def YZ:dR T 212 Kc:=⟨underlying212,rfl,⟨_,_,hz type212,rfl,rfl,rfl,rfl,⟨_,rfl⟩,rfl⟩,λ_=>oz (h8:=[b3 "what" 9 0 lu 0]) underlying212 nW eqGuardType212 ⟨by decide,rfl,underlying9,C,C⟩⟩
def Zv:bv:=⟨1,8,v,TypeDesc.unsafePointer,[.bb],[]⟩
def Zw:bv:=j2 8 .u64
def Zy:bv:=fH 3 24 #[b3 "typ_" 17 0 "internal/reflectlite" 0,b3 "ptr" 217 1 "internal/reflectlite" 8,b3 "flag" 218 2 "internal/reflectlite" 16 m] [.bb,.bb,.int .u64 0]
def Zz:bv:=⟨1,16,v,TypeDesc.interface #[("AssignableTo",228),("Comparable",227),("Elem",224),("Implements",228),("Kind",226),("Name",310),("PkgPath",310),("Size",405),("String",310),("internal/reflectlite.common",398),("internal/reflectlite.uncommon",406)],[.br],[]⟩
def ZA:bv:=j2 1 .u8
def yD:bv:=j3 245
def ZC:bv:=fH 0 0 #[] []
def ZD:bv:=fH 0 0 #[] []
def ZE:bv:=fH 0 0 #[] []
def ZF:bv:=j2 8 .u64
def ZH:bv:=fH 1 8 #[b3 "_" 236 0 "sync/atomic" 0,b3 "_" 237 0 "sync/atomic" 0,b3 "v" 238 0 "sync/atomic" 0] [.int .u64 0]
def ZI:bv:=j2 4 .u32
def ZJ:bv:=fH 2 16 #[b3 "noCopy" 235 0 "sync" 0,b3 "state" 240 0 "sync" 0,b3 "sema" 241 1 "sync" 8] [.int .u64 0,.int .u32 0]
def qE:bv:=fH 2 24 #[b3 "piece" 9 0 lu 0,b3 "ok" 4 1 lu 16] [.T [],.bool v] [.string,.bool]
def Y0:dR T 245 qE:=⟨underlying245,rfl,⟨_,_,hz type245,rfl,rfl,rfl,rfl,⟨_,rfl⟩,rfl⟩,λ_=>oz (h8:=[b3 "piece" 9 0 lu 0,b3 "ok" 4 1 lu 16]) underlying245 nW eqGuardType245 ⟨by decide,rfl,underlying9,C,by decide,rfl,underlying4,C,C⟩⟩
def oF:bv:=fH 2 16 #[b3 "Name" 3 0 "" 0,b3 "Pack" 3 1 "" 8] [.int .i64 0,.int .i64 0] [.int .i64,.int .i64]
def Y1:dR T 253 oF:=⟨underlying253,rfl,⟨_,_,hz type253,rfl,rfl,rfl,rfl,⟨_,rfl⟩,rfl⟩,λ_=>oz (h8:=[b3 "Name" 3 0 "" 0,b3 "Pack" 3 1 "" 8]) underlying253 nW eqGuardType253 ⟨by decide,rfl,underlying3,C,by decide,rfl,underlying3,C,C⟩⟩
def ZL:bv:=j2 8 .u64
def ZM:bv:=kB 331
def ZO:bv:=kB 271
def Di:bv:=j3 153
def ZQ:bv:=⟨1,16,v,TypeDesc.interface #[("As",282)],[.br],[]⟩
def ZR:bv:=⟨1,16,v,TypeDesc.interface #[("Unwrap",284)],[.br],[]⟩
def ZS:bv:=⟨1,16,v,TypeDesc.interface #[("Unwrap",287)],[.br],[]⟩
def ZT:bv:=j3 179
def ZV:bv:=kB 307
def ZW:bv:=fH 2 32 #[b3 "addr" 305 0 "strings" 0,b3 "buf" 22 1 "strings" 8] [.bb,gN]
def ZX:bv:=j2 8 .i64
def ZY:bv:=j3 201
def Z0:bv:=fH 4 32 #[b3 "spot" 253 0 lu 0,b3 "left" 267 2 lu 16,b3 "right" 267 3 lu 24] [.int .i64 0,.int .i64 0,.bb,.bb]
def Z1:bv:=j2 8 .i64
def Z2:bv:=⟨1,16,v,TypeDesc.interface #[("Len",264),("Less",321),("Pop",343),("Push",339),("Swap",341)],[.br],[]⟩
def Z4:bv:=kB 5
def Z5:bv:=j2 8 .u64
def Z6:bv:=kB 3
def Z7:bv:=kB 370
def Z8:bv:=⟨1,16,v,TypeDesc.interface #[("Is",379)],[.br],[]⟩
def Kd:bv:=fH 2 2 #[b3 "lo" 5 0 "unicode/utf8" 0,b3 "hi" 5 1 "unicode/utf8" 1] [.int .u8 0,.int .u8 0] [.int .u8,.int .u8]
def Y3:dR T 390 Kd:=⟨underlying390,rfl,⟨_,_,hz type390,rfl,rfl,rfl,rfl,⟨_,rfl⟩,rfl⟩,λ_=>oz (h8:=[b3 "lo" 5 0 "unicode/utf8" 0,b3 "hi" 5 1 "unicode/utf8" 1]) underlying390 nW eqGuardType390 ⟨by decide,rfl,underlying5,C,by decide,rfl,underlying5,C,C⟩⟩
def Z_:bv:=⟨32,32,m,TypeDesc.array 16 390,[.int .u8 0,.int .u8 0,.int .u8 0,.int .u8 0,.int .u8 0,.int .u8 0,.int .u8 0,.int .u8 0,.int .u8 0,.int .u8 0,.int .u8 0,.int .u8 0,.int .u8 0,.int .u8 0,.int .u8 0,.int .u8 0,.int .u8 0,.int .u8 0,.int .u8 0,.int .u8 0,.int .u8 0,.int .u8 0,.int .u8 0,.int .u8 0,.int .u8 0,.int .u8 0,.int .u8 0,.int .u8 0,.int .u8 0,.int .u8 0,.int .u8 0,.int .u8 0],[]⟩
def Z':bv:=kB 410
def aaa:bv:=⟨0,0,m,TypeDesc.array 0 16,[],[]⟩
def aab:bv:=fH 0 0 #[b3 "_" 395 0 "runtime" 0] []
def aac:bv:=j2 1 .u8
def aad:bv:=j2 4 .i32
def aae:bv:=j2 4 .i32
def aaf:bv:=fH 11 48 #[b3 "Size_" 12 0 "" 0,b3 "PtrBytes" 12 1 "" 8,b3 "Hash" 241 2 "" 16,b3 "TFlag" 399 3 "" 20,b3 "Align_" 5 4 "" 21,b3 "FieldAlign_" 5 5 "" 22,b3 "Kind_" 225 6 "" 23,b3 "Equal" 400 7 "" 24,b3 "GCData" 352 8 "" 32,b3 "Str" 401 9 "" 40,b3 "PtrToThis" 402 10 "" 44] [.int .u64 0,.int .u64 0,.int .u32 0,.int .u8 0,.int .u8 0,.int .u8 0,.int .u8 0,.dd,.bb,.int .i32 0,.int .i32 0]
def Ke:bv:=fH 1 16 #[b3 "s" 9 0 "errors" 0] [.T []] [.string]
def Y4:dR T 410 Ke:=⟨underlying410,rfl,⟨_,_,hz type410,rfl,rfl,rfl,rfl,⟨_,rfl⟩,rfl⟩,λ_=>oz (h8:=[b3 "s" 9 0 "errors" 0]) underlying410 nW eqGuardType410 ⟨by decide,rfl,underlying9,C,C⟩⟩
def eU:n (Nat×bv):=[(2,cd),(3,ef),(4,fz),(5,aag),(6,aai),(7,aal),(8,i8),(9,te),(12,Zj),(16,i16),(17,Zm),(20,Zs),(21,Zu),(22,Zx),(23,ZB),(24,ZG),(25,ZK),(27,ZN),(28,ZP),(30,ZU),(32,i32),(33,ZZ),(35,Z3),(36,Dj),(38,Z9),(46,yE),(53,qF),(56,aah),(61,aaj),(63,aak),(64,i64),(72,aam),(77,aan),(82,aao),(103,Dh),(105,nB),(109,td),(115,Zh),(119,Zi),(127,Zk),(129,rP),(153,l1),(168,yC),(169,Zl),(171,Zn),(179,Zo),(182,Zp),(184,Zq),(190,Zr),(201,Zt),(212,Kc),(217,Zv),(218,Zw),(220,Zy),(223,Zz),(225,ZA),(233,yD),(235,ZC),(236,ZD),(237,ZE),(238,ZF),(240,ZH),(241,ZI),(243,ZJ),(245,qE),(253,oF),(262,ZL),(267,ZM),(270,ZO),(271,Di),(280,ZQ),(283,ZR),(285,ZS),(286,ZT),(305,ZV),(307,ZW),(317,ZX),(328,ZY),(331,Z0),(332,Z1),(338,Z2),(352,Z4),(355,Z5),(358,Z6),(374,Z7),(377,Z8),(390,Kd),(391,Z_),(392,Z'),(395,aaa),(397,aab),(399,aac),(401,aad),(402,aae),(404,aaf),(410,Ke)]
def ba:bn T eU:=bn.ay underlying2 type2 ( bn.ay underlying3 type3 ( bn.ay underlying4 type4 ( bn.ay underlying5 type5 ( bn.ay underlying6 type6 ( bn.ay underlying7 type7 ( bn.ay underlying8 type8 ( bn.ay underlying9 type9 ( bn.ay underlying12 type12 ( bn.ay underlying16 type16 ( bn.ay underlying17 type17 ( bn.ay underlying20 type20 ( bn.ay underlying21 type21 ( bn.ay underlying22 type22 ( bn.ay underlying23 type23 ( bn.ay underlying24 type24 ( bn.ay underlying25 type25 ( bn.ay underlying27 type27 ( bn.ay underlying28 type28 ( bn.ay underlying30 type30 ( bn.cons Y2 ( bn.ay underlying33 type33 ( bn.ay underlying35 type35 ( bn.ay underlying36 type36 ( bn.ay underlying38 type38 ( bn.cons Y5 ( bn.cons Y6 ( bn.ay underlying56 type56 ( bn.ay underlying61 type61 ( bn.ay underlying63 type63 ( bn.ay underlying64 type64 ( bn.ay underlying72 type72 ( bn.ay underlying77 type77 ( bn.ay underlying82 type82 ( bn.ay underlying103 type103 ( bn.ay underlying105 type105 ( bn.cons YW ( bn.ay underlying115 type115 ( bn.ay underlying119 type119 ( bn.ay underlying127 type127 ( bn.ay underlying129 type129 ( bn.cons YY ( bn.ay underlying168 type168 ( bn.ay underlying169 type169 ( bn.ay underlying171 type171 ( bn.ay underlying179 type179 ( bn.ay underlying182 type182 ( bn.ay underlying184 type184 ( bn.ay underlying190 type190 ( bn.ay underlying201 type201 ( bn.cons YZ ( bn.ay underlying217 type217 ( bn.ay underlying218 type218 ( bn.ay underlying220 type220 ( bn.ay underlying223 type223 ( bn.ay underlying225 type225 ( bn.ay underlying233 type233 ( bn.ay underlying235 type235 ( bn.ay underlying236 type236 ( bn.ay underlying237 type237 ( bn.ay underlying238 type238 ( bn.ay underlying240 type240 ( bn.ay underlying241 type241 ( bn.ay underlying243 type243 ( bn.cons Y0 ( bn.cons Y1 ( bn.ay underlying262 type262 ( bn.ay underlying267 type267 ( bn.ay underlying270 type270 ( bn.ay underlying271 type271 ( bn.ay underlying280 type280 ( bn.ay underlying283 type283 ( bn.ay underlying285 type285 ( bn.ay underlying286 type286 ( bn.ay underlying305 type305 ( bn.ay underlying307 type307 ( bn.ay underlying317 type317 ( bn.ay underlying328 type328 ( bn.ay underlying331 type331 ( bn.ay underlying332 type332 ( bn.ay underlying338 type338 ( bn.ay underlying352 type352 ( bn.ay underlying355 type355 ( bn.ay underlying358 type358 ( bn.ay underlying374 type374 ( bn.ay underlying377 type377 ( bn.cons Y3 ( bn.ay underlying391 type391 ( bn.ay underlying392 type392 ( bn.ay underlying395 type395 ( bn.ay underlying397 type397 ( bn.ay underlying399 type399 ( bn.ay underlying401 type401 ( bn.ay underlying402 type402 ( bn.ay underlying404 type404 ( bn.cons Y4 (bn.nil))))))))))))))))))))))))))))))))))))))))))))))))))))))))))))))))))))))))))))))))))))))))))))))))
end R1
abbrev bB:=n UInt8
abbrev b0(a:bB):y:=aw (.T a)
abbrev R(a:Int):y:=aw (.int .i64 a)
abbrev u_(a:Int):y:=aw (.int .u8 a)
abbrev bh(a:Bool):y:=aw (.bool a)
def xA{b}:kN b e=b.getD e 0:=rfl
namespace R1
variable {q:ag T}
def b5:Tryz.prog.follows Departure.mixedOrders=m:=rfl
def qV{b:ag T}{CT}(h:a9 b CT)(bg){D}{be}(j){av i}{F a}{l ao}{e}(k:AM.kY eU CT bg D j av F l []=f (i,a,ao,e))(d:U e)(n:g b D be i .normal a ao):g b D be av .normal F l:=g.aR b5 ba h bg j k d n
def gu{d:ag T}(bg){D}{be}(j){av i}{F a}{l ao}{e}(h:AM.kY eU [] bg D j av F l []=f (i,a,ao,e))(b:U e)(k:g d D be i .normal a ao):g d D be av .normal F l:=g.aR b5 ba a9.nil bg j h b k
def aZ{d:ag T}{D}{be}{av i}{F a}{l ao}{e}(h:AM.kY eU [] [] D 100 av F l []=f (i,a,ao,e))(b:U e)(j:g d D be i .normal a ao):g d D be av .normal F l:=g.aR b5 ba a9.nil [] 100 h b j
def cr{d:ag T}{D}{be}{av i}{F a}{l ao}{e}(h:AM.kY eU [] [] D 200 av F l []=f (i,a,ao,e))(b:U e)(j:g d D be i .normal a ao):g d D be av .normal F l:=g.aR b5 ba a9.nil [] 200 h b j
def a8{b:ag T}{CT}(h:a9 b CT)(bg){D}{be}{av i}{F a}{l ao}{e}(j:AM.kY eU CT bg D 100 av F l []=f (i,a,ao,e))(d:U e)(k:g b D be i .normal a ao):g b D be av .normal F l:=g.aR b5 ba h bg 100 j d k
def bf{b:ag T}{CT}(h:a9 b CT)(bg){D}{be}{av i}{F a}{l ao}{e}(j:AM.kY eU CT bg D 200 av F l []=f (i,a,ao,e))(d:U e)(k:g b D be i .normal a ao):g b D be av .normal F l:=g.aR b5 ba h bg 200 j d k
def a6{d:ag T}(bg){D}{be}{av i}{F a}{l ao}{e}(h:AM.kY eU [] bg D 100 av F l []=f (i,a,ao,e))(b:U e)(j:g d D be i .normal a ao):g d D be av .normal F l:=g.aR b5 ba a9.nil bg 100 h b j
def bN{d:ag T}(bg){D}{be}{av i}{F a}{l ao}{e}(h:AM.kY eU [] bg D 200 av F l []=f (i,a,ao,e))(b:U e)(j:g d D be i .normal a ao):g d D be av .normal F l:=g.aR b5 ba a9.nil bg 200 h b j
def b_{b:ag T}{CT}(h:a9 b CT){D}{be}{av i}{F a}{l ao}{e}(j:AM.kY eU CT [] D 100 av F l []=f (i,a,ao,e))(d:U e)(k:g b D be i .normal a ao):g b D be av .normal F l:=g.aR b5 ba h [] 100 j d k
def cK{b:ag T}{CT}(h:a9 b CT){D}{be}{av i}{F a}{l ao}{e}(j:AM.kY eU CT [] D 200 av F l []=f (i,a,ao,e))(d:U e)(k:g b D be i .normal a ao):g b D be av .normal F l:=g.aR b5 ba h [] 200 j d k
def lr(a:Int):Bool:=decide (97<=a)&&decide (a<=101)
theorem WJ(i):Y q 131 [u_ i] [] (bh (lr i)) []:=by
 refine Y.K func131 rfl λ_=>?_;by_cases b:97<=i
 .refine a6 [4] a ?_ (g.ar a ?_)<;>simp[b,lr]
 refine a6 [-4] a ?_ (g.ar a ?_)<;>simp[b,lr]
def jq(a:UInt8):Bool:=decide (97<=a.toNat)&&decide (a.toNat<=122)
def d9(a:bB):Bool:=a.all jq
def aaY{b}(d:∀a,a<c b->jq (b.getD a 0)=m):d9 b=m:=by simp[d9,List.all_eq_true];grind[List.getElem_of_mem]
def aaV{b}(e:u<c b)(d:jq (b.getD u 0)=v):d9 b=v:=by
 cases a:d9 b with
 |false=>rfl
 |true=>
  simp[d9,List.all_eq_true]at a;grind
theorem Wb(b):Y q 132 [b0 b] [] (bh (d9 b)) []:=by
 refine Y.K func132 rfl λe=>?_;have l:=e.T 0 a;refine aZ a C (g.en (λd=>d<=c b/\∀u,u<d->jq (b.getD u 0)=m) (λd:Nat=>[(0,b0 b),(3,R d)]) (λ_=>[]) (λd=>c b-d) 0 a E ⟨by omega,by omega⟩ a ?_);rintro d ⟨h,r⟩;by_cases t:d<c b
 .generalize w:b.getD d 0=i;by_cases k:i.toNat<97
  .refine a6 [7,13] a ?_ (g.bS (bX.zero a ?_))
   .simp only[U,xA,bA,w];omega
   exact z7
  by_cases j:i.toNat>122
  .refine a6 [7,-13,18] a Qz (g.bS (bX.zero a ?_));exact z7
  refine a6 [7,-13,-18] a OA (g.again (d+1) a E ?_ ?_ a)
  .refine⟨by omega,λu I=>?_⟩;rcases w9.1 I with I|rfl
   .grind
   rw[w];simp[jq,cC,bA];omega
  omega
 exact OO
end R1
def Y.args{P:aI}{h:ag P}{i}{args a}{l ao}{res}(j:Y h i a l res ao)(e:∀b A,b6 l b A args->b6 l b A a):Y h i args l res ao:=
 ⟨j.1,λb A g d=>j.2 b A (e b A g) d⟩
def ju(d:Nat):y->Option (Nat×(Nat->n O))
 |.p (.R (.c (.C _ e b a)))=>match af e d with
  |true=>f (b,a)
  |false=>match af b 0 with
   |true=>f (0,λ_=>[])
   |false=>p
 |_=>p
def ac_{B}{r}{j}{e:Nat->n O}(a:ju B r=f (j,e)){l}{b}{aa}(s:bx l b aa r):Rd b.E aa (.C v B j e):=by
 unfold ju at a;split at a
 .rename_i o h d dK;split at a
  .rename_i g;have k:=di g;subst k;cases a;exact(b8 s).eo
  split at a
  .rename_i u;have k:=di u;subst k;cases a;have q:=b8 s;cases q with
   |C w i y t D F g z A C=>exact Rd.C w i y t D E x x x x
  grind
 grind
def gv{b:Type}(d:b->n O)(a:b)(g:n b):Nat->n O:=λe=>d (g.getD e a)
structure c0(α:Type) where
 bl:Nat
 a9:α->n O
 cp:n O->α
 I:α
 inv:∀w,cp (a9 w)=w
 len:∀w,c (a9 w)=bl
namespace c0
variable {α:Type}(r:c0 α)
def af(d:Nat)(a:Nat->n O):n α:=(aB d).map λb=>r.cp (a b)
def fn(a:n α):Nat->n O:=gv r.a9 r.I a
def bT(d:Nat)(a:Nat->n O):Prop:=∀b,b<d->a b=r.a9 (r.cp (a b))
def C(a:n α):y:=aw (.C v r.bl (c a) (r.fn a))
def jv{j}{a:Nat->n O}:c (r.af j a)=j:=by simp[af]
def m(d):r.af (c d) (r.fn d)=d:=by
 apply rx
 .simp[af]
 intro e b a;simp[af,fn,gv,al,bG a,r.inv]
def U(d){j}:r.bT j (r.fn d):=λa _=>by simp[fn,gv,r.inv]
def iU{j}{a:Nat->n O}(d:r.bT j a):bt j a (r.fn (r.af j a)):=by intro e b;rw[d e b];simp[fn,gv,af,al,b]
def cw{d}{j}{a:Nat->n O}(i:ju r.bl d=f (j,a))(g:r.bT j a){l}{b}{aa}(k:bx l b aa d):bx l b aa (r.C (r.af j a)):=by have e:=ac_ i k;have h:=e.cE (r.iU g);show Rd b.E aa (.C v r.bl (c (r.af j a)) _);rw[r.jv];exact h
end c0
def dj(b:bB)(a:Nat):Int:=(b.getD a 0).toNat
theorem ki(b)(u):((kN b u).toNat:Int)=dj b u.toNat:=rfl
abbrev cZ:=bB×bB
def wc(a:n O)(b:Nat):bB:=match c9 b a with|some (.T d)=>d|_=>[]
def tj(a:n O)(b:Nat):Int:=match c9 b a with|some (.int _ d)=>d|_=>0
def bC:c0 cZ:={bl:=2,a9:=λb=>[.T b.1,.T b.2],cp:=λa=>(wc a 0,wc a 1),I:=([],[]),inv:=λ_=>rfl,len:=λ_=>rfl}
namespace R1
variable {q:ag T}
def Bm:bK:=λargs a=>match args,a with
 |[.p (.R (.c (.int .u8 b)))],[]=>f (bh (lr b),[],[])
 |_,_=>p
def adK:bM q 131 Bm:=by intro args g b d a e _;unfold Bm at e;grind[WJ]
def xB:bK:=λargs a=>match args,a with
 |[.p (.R (.c (.T b)))],[]=>f (bh (d9 b),[],[])
 |_,_=>p
def t132:bM q 132 xB:=by intro args g b d a e _;unfold xB at e;grind[Wb]
def H_:n (Nat×bK):=[(131,Bm),(132,xB)]
def qq:a9 q H_:=a9.cons adK (a9.cons t132 a9.nil)
def fP(a:bB):Bool:=if c a=1 then lr (dj a 0)else if c a=3 then lr (dj a 0)&&(dj a 1==47)&&lr (dj a 2)else v
theorem Xc(b):Y q 75 [b0 b] [] (bh (fP b)) []:=by
 refine Y.K func75 rfl λh=>?_;by_cases aj:c b=1
 .refine a8 qq [6] a Ah (g.ar a ?_);simp[fP,aj,ki]
 by_cases d:c b=3
 .by_cases i:lr (dj b 0)=m
  .by_cases e:dj b 1=47
   .refine a8 qq [-6,11,14,18] a ?_ (g.ar a ?_)
    .simp[d,ki,i,e]
    simp[fP,d,i,e,ki]
   refine a8 qq [-6,11,14,-18] a ?_ (g.ar a ?_)
   .simp[d,ki,i,e]
   simp[fP,d,i,e]
  refine a8 qq [-6,11,-14] a ?_ (g.ar a ?_)
  .simp[d,ki,i]
  simp[fP,d,i]
 refine a8 qq [-6,-11] a bW (g.ar a ?_);simp[fP,aj,d]
def fG(a:bB):Bool:=decide (c a<=40)&&d9 a
theorem X_(b):Y q 76 [b0 b] [] (bh (fG b)) []:=by
 refine Y.K func76 rfl λe=>?_;by_cases d:c b<=40
 .refine a8 qq [5] a bW (g.ar a ?_);simp[fG,d]
 refine a8 qq [-5] a bW (g.ar a ?_);simp[fG,d]
def ld(a b:bB):Bool:=(c a != c b)&&(dj a 0==dj b 0)
def Um(b i)(d:b≠[])(e:i≠[]):Y q 77 [b0 b,b0 i] [] (bh (ld b i)) []:=by
 have j:=AY.2 d;have h:=AY.2 e;refine Y.K func77 rfl λk=>?_;by_cases I:c b=c i
 .refine a6 [-9] a so (g.ar a ?_);simp[ld,I]
 refine a6 [9] a bw (g.ar a ?_);simp[ld,I,ki]
end R1
def ri(d a:n an):Prop:=∀b,bd d b->bd a b/\cN d b a b/\∀g(e:y),bx d b g e->bx a b g e
def Du:an->an->Option (n Prop)
 |.w h r j d,.w a e g b=>match af h a,af r e with
  |true,m=>f [j=g,bt j d b]
  |_,_=>p
 |.cells h q,.cells a i=>match af h a with
  |true=>qK q i
  |false=>p
 |.M,.M=>f []
 |.J H,.J k=>f [H=k]
 |.loop u t w,.loop o l s=>f [an.loop u t w=an.loop o l s]
 |.bo,.bo=>f []
 |.q h r j d,.q a e g b=>match af h a,af r e with
  |true,m=>f [j=g,bt j d b]
  |_,_=>p
 |_,_=>p
def jp:n an->n an->Option (n Prop)
 |[],[]=>f []
 |b::h,d::g=>match Du b d with
  |some e=>match jp h g with
   |some a=>f (gD e a)
   |none=>p
  |none=>p
 |_,_=>p
def wV(j e:an):Prop:=
 (∀d h g a,j=.w d h g a->∃b,e=.w d h g b/\bt g a b)/\((∀d h g a,j≠.w d h g a)->(∀d h g a,e≠.w d h g a)/\(j=e∨(∃d k i,j=.cells d k/\e=.cells d i/\∀l n A,bO l n A k->bO l n A i)∨∃d h g a b,j=.q d h g a/\e=.q d h g b/\bt g a b))
theorem aaP{B g}(d:Du B g=f ab)(k:U ab):wV B g:=by
 unfold Du at d;split at d
 .rename_i W h j V i x e b;split at d
  .rename_i r u;cases d;have l:=di r;have w:=di u;obtain⟨s,D⟩:j=e/\bt j V b:=k;subst l w s;refine⟨λeL J M C he=>?_,λK=>absurd a (K _ _ _ _)⟩;grind
  grind
 .rename_i W ai i n;split at d
  .rename_i r;have l:=di r;subst l;exact⟨λ_ _ _ _ he=>ra,λ_=>⟨λ_ _ _ _ he=>ra,.inr (.inl ⟨W,ai,n,a,a,λN O A y=>Dw d k y⟩)⟩⟩
  grind
 .exact FD
 .cases d;rename_i H o;have t:H=o:=k;subst t;exact FD
 .cases d;rename_i F E y I q z;have t:an.loop F E y=an.loop I q z:=k;exact⟨λ_ _ _ _ he=>ra,λ_=>⟨λ_ _ _ _ he=>ra,.inl t⟩⟩
 .exact FD
 .rename_i W h j V i x e b;split at d
  .rename_i r u;cases d;have l:=di r;have w:=di u;obtain⟨s,D⟩:j=e/\bt j V b:=k;subst l w s;exact⟨λ_ _ _ _ he=>ra,λ_=>⟨λ_ _ _ _ he=>ra,.inr (.inr ⟨W,h,j,V,b,a,a,D⟩)⟩⟩
  grind
 grind
def Ku:∀{h d:n an}{e:n Prop},jp h d=f e->U e->c d=c h/\∀(i:Nat)g b,h[i]?=f g->d[i]?=f b->wV g b
 |[],[],_,_,_=>⟨rfl,λi g b a=>by grind⟩
 |[],_::_,_,a,_=>by cases a
 |_::_,[],_,a,_=>by cases a
 |k::u,l::t,e,a,j=>by
  simp only[jp]at a;split at a
  .rename_i s o;split at a
   .rename_i afZ dq;cases a;rw[U.Y]at j;obtain⟨r,q⟩:=Ku dq j.2;grind[aaP]
   grind
  grind
def jT(D:jp l ao=f ab)(ae:U ab):ri l ao:=by
 obtain⟨ax,aE⟩:=Ku D ae;intro C G;have aA:∀(i:Nat) q,l[i]?=f q->∃r,ao[i]?=f r/\wV q r:=N;have get:∀(i:Nat) (r:an),ao[i]?=f r->∃q,l[i]?=f q/\wV q r:=N;have az:∀(i:Nat),(∀q,l[i]?=f q->q.dR=v)->∀q,ao[i]?=f q->q.dR=v:=by
  intro i ad r o;obtain⟨q,aG,x⟩:=get i _ o;have aw:=ad q aG;rcases(x.2 (λg h j b u=>by rw[u]at aw;cases aw)).2 with rfl|⟨g,e,O,rfl,rfl,_⟩|⟨g,h,j,b,d,rfl,rfl,_⟩
  .omega
  .rfl
  exact cQ
 have aO:∀(i:Nat) g h j b,ao[i]?=f (an.q g h j b)->∃d,l[i]?=f (an.q g h j d):=by
  intro i g h j b o;obtain⟨q,aG,x⟩:=get i _ o;by_cases B:∃g h j b,q=an.w g h j b
  .obtain⟨E1,k1,ah,lV,rfl⟩:=B;obtain⟨d,s,_⟩:=x.1 _ _ _ _ rfl;cases s
  rcases(x.2 (λg h j b u=>B ⟨g,h,j,b,u⟩)).2 with rfl|⟨g,e,O,rfl,D,_⟩|⟨g,h,j,b,d,rfl,D,_⟩
  .grind
  .cases D
  grind
 have aL:∀(i:Nat) g h j b,ao[i]?=f (an.w g h j b)->∃d,l[i]?=f (an.w g h j d):=by
  intro i g h j b o;obtain⟨q,aG,x⟩:=get i _ o;by_cases B:∃g h j b,q=an.w g h j b
  .obtain⟨E1,k1,ah,lV,rfl⟩:=B;obtain⟨d,s,_⟩:=x.1 _ _ _ _ rfl;grind
  exact absurd a ((x.2 (λg h j b u=>B ⟨g,h,j,b,u⟩)).1 g h j b)
 have ar:∀(z:Z) (R:Q),cx l C z R->cx ao C z R:=by
  intro z R k;cases R with
  |c aJ=>exact k
  |ptr i aQ=>exact⟨az i k.1,k.2⟩
  |w i h j b=>
   refine⟨k.1,by rw[ax];exact k.2.1,λg I J d o=>?_⟩;obtain⟨kP,t⟩:=aL i g I J d o;exact k.2.2 g I J kP t
  |aV i=>exact⟨az i k.1,k.2⟩
  |S i aR=>
   obtain⟨ag,ai,aF,aH⟩:=k;refine⟨ag,ai,by grind,λg I J d o=>?_⟩;grind
  |any=>exact k
 have aj:∀(A:n Z) (e:n Q),bO l C A e->bO ao C A e:=by
  intro A;induction A with
  |nil=>intro e k;cases e with|nil=>trivial|cons _ _=>exact k.elim
  |cons z A F=>intro e k;cases e with|nil=>exact k.elim|cons aD e=>exact⟨ar _ _ k.1,F _ k.2⟩
 have au:∀(z:Z) (u:E1),ez l C z u->ez ao C z u:=by
  intro z u k;cases u with
  |R R=>exact ar _ _ k
  |agg e=>obtain⟨A,s,t⟩:=k;exact⟨A,s,aj _ _ t⟩
 have aP:∀(A:n Z) (e:n E1),eV l C A e->eV ao C A e:=by
  intro A;induction A with
  |nil=>intro e k;cases e with|nil=>trivial|cons _ _=>exact k.elim
  |cons z A F=>intro e k;cases e with|nil=>exact k.elim|cons aD e=>exact⟨au _ _ k.1,F _ k.2⟩
 have av:∀(z:Z) (T:y),bx l C z T->bx ao C z T:=by
  intro z T k;cases T with
  |p aJ=>exact au _ _ k
  |ae aK=>obtain⟨A,s,t⟩:=k;exact⟨A,s,aP _ _ t⟩
  |any=>trivial
 refine⟨⟨G.mem,by rw[G.len,ax],?_,G.a3,G.lt,G.own⟩,⟨bE _,λ_ _ _=>rfl,λ_ _ _ D=>D,λ_ _ _ _=>rfl,λL D M w=>.inr ⟨L,D,w⟩,?_,a,a,a,a⟩,av⟩
 .intro i r L ak W;obtain⟨q,aG,x⟩:=get i r ak;have w:=G.box i q L aG W;by_cases B:∃g h j b,q=an.w g h j b
  .obtain⟨g,h,j,b,rfl⟩:=B;obtain⟨d,rfl,o⟩:=x.1 _ _ _ _ rfl;refine⟨w.1.cE o,?_⟩;rcases w.2 with⟨s,t⟩|s
   .exact .inl ⟨s,t.cE o⟩
   grind
  rcases(x.2 (λg h j b u=>B ⟨g,h,j,b,u⟩)).2 with rfl|⟨g,e,O,rfl,rfl,S⟩|⟨g,h,j,b,d,rfl,rfl,S⟩
  .cases q with
   |cells g e=>obtain⟨M,A,s,t,E,K⟩:=w;exact⟨M,A,s,t,aj _ _ E,K⟩
   |w g h j b=>grind
   |J H=>exact w
   |M=>trivial
   |loop aN aM k=>obtain⟨i,tmps,fn,aC,s,t,E,K,V⟩:=w;exact⟨i,tmps,fn,aC,s,t,E,λaI=>av _ _ (K aI),V⟩
   |bo=>exact w
   |q g h j b=>exact w
  .obtain⟨M,A,s,t,E,K⟩:=w;exact⟨M,A,s,t,aj _ _ (S _ _ _ E),K⟩
  rcases w with w|⟨M,X,A,aq,s,t,E,K,V,Y,aa⟩
  .exact .inl w
  exact .inr ⟨M,X,A,aq,s,t,E,K,V,Y.cE S,aa⟩
 intro i q L aG W;obtain⟨r,ak,x⟩:=aA i q aG;refine⟨r,L,ak,W,?_⟩;by_cases B:∃g h j b,q=an.w g h j b
 .obtain⟨g,h,j,b,rfl⟩:=B;obtain⟨d,rfl,o⟩:=x.1 _ _ _ _ rfl;exact⟨λ_=>rfl,bE _⟩
 rcases(x.2 (λg h j b u=>B ⟨g,h,j,b,u⟩)).2 with rfl|⟨g,e,O,rfl,rfl,S⟩|⟨g,h,j,b,d,rfl,rfl,_⟩
 .exact fJ.refl _ _
 .exact a
 exact⟨λ_=>rfl,bE _⟩
section
variable {q:ag P}
theorem b2.aU{aP}{e}(E:∀d g,bZ D l d F g->bd l d->∃a:a5,a.a=d.a/\bZ D ao a e g/\bd ao a/\cN l d ao a)(K:b2 q D r aP e ao):b2 q D r aP F l:=by intro d g N b A t k z s o;obtain⟨a,M,C,x,w⟩:=E d g N b;have y:=w.too' b;refine .aU (.of b x M y) ?_;exact K a g C x A t k z s λB I i u j O J n h=>o B I i u j O J n (y.trans h)
theorem g.aU{b}{ao}(h:∀d e,bZ D l d F e->bd l d->∃a:a5,a.a=d.a/\bZ D ao a b e/\bd ao a/\cN l d ao a)(i:g q D be (.code r::av) .normal b ao):g q D be (.code r::av) .normal F l:=
 b2.aU h i
def bZ.al{h:Act}(a:ri l ao)(e:bZ D l b F h)(d:bd l b):bZ D ao b F h:=⟨e.size,e.defers.imp λ_ g=>g.mono (a b d).2.1.ext,λi=>(a b d).2.2 _ _ (e.aK i)⟩
def g.bf(ao)(d:jp l ao=f ab)(b:U ab)(i:g q D be (.code r::av) .normal F ao):g q D be (.code r::av) .normal F l:=
 g.aU (λe j h a=>⟨e,rfl,h.al (jT d b) a,(jT d b e a).1,(jT d b e a).2.1⟩) i
def g.bM(o)(W)(h){gb}(y:look F o=aw (.C m gb j V))(b:j=0)(s:g q D be (.code r::av) .normal ((o,.p (.R (.w (c l) h j V)))::F) (l++[.w W h j V])):g q D be (.code r::av) .normal F l:=by
 refine g.aU (λi d e bQ=>?_) s;have t:=e.aK o;rw[y]at t;have a:=Rd.fX (h:=gb) (gb:=h) (.inr b) (b8 t);have aG:ey (l++[.w W h j V]) {i with t:=i.t++[⟨d.tmps.getD o K,[]⟩]} (.w W h j V) ⟨d.tmps.getD o K,[]⟩:=⟨a.eo,.inl ⟨⟨rfl,b⟩,a⟩⟩;obtain⟨x,k⟩:=bQ.b2 (.refl _ _) rfl bQ aG E
 refine⟨{i with t:=i.t++[⟨d.tmps.getD o K,[]⟩]},rfl,⟨e.size,e.defers.imp λ_ a=>a.mono k.ext,λu=>?_⟩,x,k⟩;simp only[look];cases n:af o u with
 |false=>exact(e.aK u).mono k.ext bQ.len
 |true=>
  have w:=di n;subst w;exact tE (L:=⟨d.tmps.getD o K,[]⟩) E uh aG
def g.b_{M:Type}(K:M->Prop)(e:M->bI)(b:M->n an)(u:M->Nat)(k){I:n Prop}(aD:iT F (e k)=f ab)(ak:U ab)(au:jp l (b k)=f I)(O:U I)(Q:K k)(round:∀k,K k->g q D (λt A B=>match t with
   |.normal=>∃X,K X/\u X<u k/\iD A (e X)/\ri B (b X)
   |t=>g q D be av t A B) [.code r] .normal (e k) (b k)):g q D be (.code (.loop r)::av) .normal F l:=by
 intro ag w ao z i Y T R W V;have ad:=jT au O;obtain⟨aA,aC,_⟩:=ad ag z;refine xo (λj d az=>∃X,K X/\bZ D (b X) az (e X) d/\bd (b X) az/\dd l ag (b X) az/\u X=j) ?_ ?_ ⟨k,Q,(ao.le (eH aD ak)).al ad z,aA,aC.too' z,a⟩
 .rintro j d az ⟨X,Z,o,C,N,t⟩;exact⟨b X,C,λH x=>⟨X,Z,o.rely x C,C.rely x,N.trans x.aY,t⟩⟩
 rintro j d az ⟨X,Z,o,C,N,rfl⟩ G;refine round X Z az d o C i (.inLoop r::Y) T R W ?_;intro t aE aj J S ae ah h s;cases t with
 |normal=>
  obtain⟨ai,y,ar,aq,aa⟩:=ae;obtain⟨ax,aw,_⟩:=aa J h;exact G S J (u ai) ar ⟨ai,y,(ah.le aq).al aa h,ax,N.trans (s.trans (aw.too' h)),a⟩
 |_=>exact kO.cons (λ_ _=>rfl) E (V _ _ _ _ _ ae ah h (N.trans s))
def g.b5{b:Type}{o:b->Prop}{e:b->bI}{h:b->n an}{w:b->Nat}{s:b}{j:fv}(X){dr}(t:iT F (e X)=f ab)(x:U ab)(i:jp l (h X)=f dr)(y:U dr)(z:o X)(r:w X<w s):
  g q D (λk a d=>match k with
   |.normal=>∃X,o X/\w X<w s/\iD a (e X)/\ri d (h X)
   |k=>j k a d) [] .normal F l:=⟨X,z,r,eH t x,jT i y⟩
end
def Y.b4{w:ag P}{z}{args}{res d}(h:Y w z args [] res ao)(C:kq res d=f ab)(D:U ab)(x:hN 0 d=m):Y w z args [] d []:=by
 refine⟨h.1,λb A t j B n r=>h.2 b A t j B n λo F k s u g e=>?_⟩;have K:b.t=[]:=jF j.len;have E:eY k {k with t:=[]}:=⟨rfl,λ_ _ _ h=>h,λ_ _ _=>rfl,g.mem,λy i=>.inl N⟩
 refine .aU E (r o F {k with t:=[]} (s.mono λ_ _ _ h=>h) ?_ ⟨g.mem,rfl,by simp,by simp,by simp,λy i=>⟨(g.own y i).1,by simp⟩⟩ ⟨e.size,e.a6,e.mem,e.bG,by simp,λM J L aG=>by grind,e.os,e.tape,e.output,e.own⟩);have q:=pz C D u;have:=bx.sub (aS:=[]) (l:=ao) (ao:=[]) (b:=k) (lD:=[]) (I:=d) a a (by rw[L9 x];exact q) x;omega
section drop
variable {aO bs:n an}
def vs(b:Nat):an->Bool
  |.cells _ a=>lp b a
  |.loop ..=>v
  |_=>m
def ko(a:Nat):n an->Bool
  |[]=>m
  |b::d=>match vs a b with|true=>ko a d|false=>v
def Ki{j}:∀{e:n an},ko j e=m->∀a∈e,vs j a=m
  |[],_,a,aG=>by grind
  |g::h,b,a,aG=>by
    simp[ko]at b;cases d:vs j g with
    |false=>grind
    |true=>
      simp[d]at b;rcases fr.1 aG with rfl|aG
      · exact d
      · exact Ki b a aG
def ey.fC{d}{L}(j:vs (c aO) d=m)(a:ey (aO++bs) b d L):ey aO (b.cut (c aO)) d L:=by
  cases d with
  |cells i n=>
    obtain⟨k,A,g,h,o,l⟩:=a;exact⟨k,A,g,h,bO.cK o j,l⟩
  |w i q r e=>exact a
  |J H=>exact a
  |M=>trivial
  |loop t s u=>simp[vs]at j
  |bo=>exact a
  |q i q r e=>exact a
def bd.drop(t:bd (aO++bs) b)(q:ko (c aO) aO=m):bd aO (b.cut (c aO)):=by
  have k:c aO<=c b.t:=Fh;refine⟨t.mem,by simp[a5.cut,k],?_,?_,?_,λe a=>⟨(t.own e a).1,λL d=>(t.own e a).2 L (hh d)⟩⟩
  · intro h n L aG d
    have o:h<c aO:=(cO.1 aG).1;simp[a5.cut,iq,o,dH]at d;exact ey.fC (bs:=bs) (Ki q n (ca aG)) (t.box h n L N d)
  · intro h l L i d j e a g
    simp only[a5.cut,iq]at d j;split at d<;>split at j<;>first|exact t.a3 h l L i d j e a g|grind|grind
  · intro L d e a
    exact t.lt L (hh d) e a
def i_.drop(l:jU bs=m):∀{e:n Deferred} {g:n Nat},i_ (aO++bs) b e g->i_ aO (b.cut (c aO)) e g
  |[],[],_=>trivial
  |[],_::_,i=>i.elim
  |_::_,[],i=>i.elim
  |t::e,o::g,⟨⟨d,L,i,k,s⟩,q,r⟩=>by
    have h:o<c aO:=by
      rcases d6 o (c aO) with j|j
      · exact j
      · rw[hr j]at d
        exact absurd a (vH l _ (ca d))
    rw[kH h]at d;exact⟨⟨d,L,i,by simp[a5.cut,iq,h,dH];exact k,s⟩,q,i_.drop l r⟩
def vK(b:Nat)(a:n an):Bool:=match ay b (c a) with|true=>jU (a.drop b)|false=>v
theorem yZ(a:vK j l=m):ay j (c l)=m/\jU (l.drop j)=m:=by unfold vK at a;grind
end drop
def qI(a:Nat):bI->Bool
  |[]=>m
  | (_,b)::d=>match hN a b with|true=>qI a d|false=>v
def vt{j}:∀{d:bI} {a:Nat},qI j d=m->hN j (look d a)=m
  |[],a,_=>rfl
  | (h,g)::i,a,b=>by
    simp[qI]at b;cases e:hN j g with
    |false=>grind
    |true=>
      simp[e]at b;simp[look];cases af h a with
      |true=>exact e
      |false=>exact vt b
section
variable {q:ag P}
def mn{e:Type}(w:ag P)(u:Nat)(j:fv)(t:n ik)(s:e->Prop)(r:e->bI)(o:e->n an)(q:e->Nat)(l:Nat)(x:e):fv:=λk d h=>match k with
  |.normal=>∃i,s i/\q i<q x/\iD d (r i)/\qI l (r i)=m/\∃a b,h=a++b/\c a=l/\(ko l a=m/\jU b=m)/\ri a (o i)
  |k=>g w u j t k d h
def g.aE{K:Type}(j)(C:K->Prop)(h:K->bI)(b':K->n an)(Y:K->Nat)(k){dr}(ar:iT F (h k)=f ab)(az:U ab)(aH:jp l (b' k)=f dr)(aP:U dr)(aE:c l=j)(au:C k)(round:∀k,C k->g q D (mn q D be av C h b' Y j k) [.code r] .normal (h k) (b' k)):g q D be (.code (.loop r)::av) .normal F l:=by
  intro ai w aA z i W S M d T;have u:=jT aH aP;obtain⟨aM,O,_⟩:=u ai z;refine xo (λag e b=>∃X,C X/\bZ D (b' X) b (h X) e/\bd (b' X) b/\dd l ai (b' X) b/\Y X=ag) ?_ ?_ ⟨k,au,(aA.le (eH ar az)).al u z,aM,O.too' z,a⟩
  · rintro j e b ⟨X,J,Q,B,I,aj⟩
    exact OU
  rintro ag e b ⟨X,J,Q,B,I,rfl⟩ V;refine round X J b e Q B i (.inLoop r::W) S M d ?_;intro aj aN ao A R ah G t o;cases aj with
  |normal=>
    obtain⟨ak,ax,aG,aF,aO,s,Z,rfl,ae,⟨H,aq⟩,aJ⟩:=ah;have aa:=t.drop N;obtain⟨aL,ad,aI⟩:=aJ _ aa;have y:=G.le aF;have aC:eY A (A.cut (c s)):=⟨rfl,λ_ _ _ aD=>aD,λ_ _ _=>rfl,t.mem,λi d=>d.imp id λ⟨L,aw,d⟩=>⟨L,hh aw,d⟩⟩
    refine .aU aC (V R (A.cut (c s)) (Y ak) aG ⟨ak,ax,⟨y.size,y.defers.imp λ_ cS=>(cS.drop aq).mono ad.ext,λaK=>aI _ _ ((y.aK aK).drop (vt N))⟩,aL,?_,a⟩);exact((I.trans o).drop x).trans (ad.too' aa)
  |_=>exact kO.cons (λ_ _=>rfl) E (T _ _ _ _ _ ah G t (I.trans o))
def g.h9{d:Type}{o:d->Prop}{a:d->bI}{b:d->n an}{h:d->Nat}{k}{e}(X){dr}(t:iT F (a X)=f ab)(y:U ab)(r:qI j (a X)=m)(w:vK j l=m)(i:jp (l.take j) (b X)=f dr)(u:U dr)(x:ko j (l.take j)=m)(z:o X)(s:h X<h k):
    g q D (mn q D be e o a b h j k) [] .normal F l:=
  ⟨X,z,s,eH t y,r,l.take j,l.drop j,(Gq j l).symm,by grind[Nat.le_of_ble_eq_true,yZ],⟨x,(yZ w).2⟩,jT i u⟩
def g.ax{e:Type}{j}{h:e->Prop}{a:e->bI}{d:e->n an}{w:e->Nat}{k}{t}(X){ab dr}(b:(iT F (a X),qI j (a X),vK j l,jp (l.take j) (d X),ko j (l.take j))=(f ab,m,m,f dr,m))(r:U ab)(s:U dr)(o:h X)(i:w X<w k):
    g q D (mn q D be t h a d w j k) [] .normal F l:=by simp[lK]at b;exact g.h9 X b.1 r b.2.1 b.2.2.1 b.2.2.2.1 s b.2.2.2.2 o i
def g.aB{bq:Type}{cF:bq->Prop}{hx:bq->bI}{b':bq->n an}{i:bq->Nat}{k}{id}{r w I}(h:g q D be I .normal F l)(cS:iP id r=p:=by exact rfl)(dq:iP id w=f I:=by exact rfl):
    g q D (mn q D be w cF hx b' i j k) (.code (.exit id)::r) .normal F l:=
  b2.mono (g.bt (Q:=λdF ao=>mn q D be w cF hx b' i j k .normal dF ao) cS dq h) λaj dF ao bc=>by
    have key:∀av aj,g q D (λaj dF ao=>match aj with
        |.normal=>mn q D be w cF hx b' i j k .normal dF ao
        |aj=>g q D be w aj dF ao) av aj dF ao->g q D (mn q D be w cF hx b' i j k) av aj dF ao:=by
      have aj:(λaj dF ao=>match aj with
        |.normal=>mn q D be w cF hx b' i j k .normal dF ao
        |aj=>g q D be w aj dF ao)=mn q D be w cF hx b' i j k:=by funext aj dF ao;cases aj<;>rfl
      grind
    exact key _ _ bc
def g.aX{a:Type}{e:a->Prop}{b:a->bI}{d:a->n an}{o:a->Nat}{k}{h i}(r:be .ret F l):g q D (mn q D be i e b d o j k) (.code .ret::h) .normal F l:=
  g.ret (g.dO (be:=be) r)
theorem bZ.freeze(o d){ai}{gE}(ak:look F o=aD d 0)(O:c9 d l=f (.cells W ai))(aa:h4 ai=f gE){w}(B:bZ D l b F w)(g:bd l b):∃i:a5,i.a=b.a/\bZ D (l.set d .M) i ((o,aw (.Q gE))::F) w/\bd (l.set d .M) i/\cN l b (l.set d .M) i:=by
  have aG:=er O;have ae:d<c l:=(cO.1 aG).1;have Y:=B.aK o;rw[ak]at Y;obtain⟨_,L,r,R,T,ah⟩:=Y;obtain⟨x,A,s,J,y,G⟩:=g.box d _ L aG R;subst s;simp at T;subst T;let i:a5:={b with E:=λX t=>if X=x then A[t]? else b.E X t}
  have q:cN l b (l.set d .M) i:=by
    refine⟨bE _,λ_ _ _=>rfl,?_,?_,λL ab r j=>.inr ⟨L,ab,j⟩,?_,a,a,a,a⟩
    · grind
    · intro r j Q t
      have ag:r≠x:=λaj=>Q _ (ca R) Ah;grind
    · intro n E k e h
      by_cases aj:d=n
      · subst aj
        rw[aG]at e;cases e;exact⟨.M,k,by grind,h,a⟩
      · exact⟨E,k,by grind,h,.refl _ _⟩
  refine⟨i,a,⟨B.size,B.defers.imp λ_ s=>s.mono q.ext,λZ=>?_⟩,⟨?_,by simp[g.len,i],?_,g.a3,g.lt,g.own⟩,q⟩
  · simp only[look]
    cases j:af o Z with
    |false=>exact(B.aK Z).mono q.ext g.len
    |true=>
      have aj:=di j;subst aj;rw[ah];have V:=rJ aa y;refine Rd.Q x 0 (λu=>(A[u]?).getD K) ?_ ?_
      · intro u I M
        obtain⟨C,U,_⟩:=V.get (u:=u) (w:=.c I) N;grind
      · intro u I M
        obtain⟨C,U,S⟩:=V.get (u:=u) (w:=.c I) N;simp[U,ir];exact Rd.mono q.mem S
  · intro r t C ad
    by_cases aj:r=x
    · subst aj
      have z:A[t]?=f C:=N;show b.a.cell? _=_;simp[aM,J,z]
    · exact g.mem r t C N
  · intro n E k e h
    by_cases aj:d=n
    · subst aj
      rw[io ae]at e;cases e;trivial
    · rw[j_ aj]at e
      refine(g.box n E k e h).ck q.ext g.len λr j=>⟨a,λt=>?_⟩
      have ag:r≠x:=λan=>aj (g.a3 d n _ k R h r N j);grind
theorem g.freeze(o d){W}{ai}{gE}(h:look F o=aD d 0)(a:c9 d l=f (.cells W ai))(e:h4 ai=f gE)(b:g q D be (.code r::av) .normal ((o,aw (.Q gE))::F) (c'.cu d .M l)):g q D be (.code r::av) .normal F l:=by grind[mU,g.aU,bZ.freeze]
def g.R{bs}{k}(b:aJ q D all s F l k ao)(a:fg D s.dst=m)(d:g q D be (.aj all bs::av) .normal (fW s.dst k F) ao):g q D be (.aj all (s::bs)::av) .normal F l:=
  fc.di b (lg a) d
end
structure Aw(I:TypeDesc)(V:Array MapEntry)(h:Z)(w:Option (Nat×Z)):Prop where
 key:MapKept.IsKey I h
 c1:Instr.findNow I h V.toList 0=f w
 df:w=p->∀aj∈V.toList,aj.key≠h
 gI:∀u aa,w=f (u,aa)->∃aj,V[u]?=f aj/\aj.key=h/\aj.val=aa
def JQ{I}{V}{h}(a:MapKept.IsKey I h)(e:∀b∈V.toList,MapKept.IsKey I b.key):∃d,Aw I V h d:=by
 rcases MapKept.findNow_spec a V.toList 0 e with⟨i,B⟩|⟨u,b,i,B,z⟩
 .exact⟨p,a,i,λ_=>B,by simp⟩
 refine⟨_,a,i,by simp,λj k g=>?_⟩;grind
section
variable {J:au}{r ae:aq}{I:TypeDesc}{bb:Nat}{V:Array MapEntry}{clock:Nat}{h:Z}{ok:Bool}
def Mi(a:P.underlying r=f I):(underlying r).run P J=.ok I J:=by simp[underlying,a]
def yb(b:P.underlying r=f I)(d:MapKept.IsKey I h)(i)(a):(Instr.checkKey i 10000 r h).events P J a=a:=by show(Instr.checkKey i (9999+1) r h).events P J a=a;unfold Instr.checkKey;simp[aF,Mi b,aK,events_underlying];cases I<;>cases h<;>first|exact d.elim|simp
def ye{d}{e}(b:P.underlying r=f I)(g:Instr.findNow I h d 0=f e)(a):(Instr.findKey r h d).events P J a=a:=by simp[Instr.findKey,Mi b,g]
def yf(b:J.heap[bb]?=f (.map V clock))(a):(getObj bb).events P J a=a.push ⟨.obj bb,v,v⟩:=by simp only[getObj,Sem.events,Sem.runT,b];rfl
def Jl(d:J.heap[bb]?=f (.map V clock)){dK}{b}(a):(setObj bb (.map dK b)).events P J a=a.push ⟨.obj bb,m,v⟩:=by simp[setObj,Sem.events,Sem.runT,d];rfl
def Me(a:P.underlying r=f I)(b:MapKept.IsKey I h)(i):(Instr.checkKey i 10000 r h).run P J=.ok () J:=MapKept.run_checkKey a b i 9999
def KE(s:P.underlying o=f (.map r ae))(b:P.underlying r=f I)(e:J.heap[bb]?=f (.map V clock)){g}(d:Aw I V h g){cL}(l:g=p->(zeroValue ae).run P J=.ok cL J):
  (Instr.lookup o (.map (f bb)) h ok).run P J=.ok (match g with
   |some (_,n)=>if ok=m then .tuple #[n,.bool m]else n
   |none=>if ok=m then .tuple #[cL,.bool v]else cL) J/\(Instr.lookup o (.map (f bb)) h ok).events P J #[]=#[⟨.obj bb,v,v⟩]:=by
 have j:(underlying o).run P J=.ok (.map r ae) J:=by simp[underlying,s]
 have k:=Me (J:=J) b d.key V.isEmpty;have i:(Instr.findKey r h V.toList).run P J=.ok g J:=MapKept.run_findKey b d.c1;cases g with
 |some q=>
  constructor
  .simp only[Instr.lookup,cI,j,c7,MapKept.run_getObj_map e,d_,k,i]
  simp only[Instr.lookup,aF,j,aK,MapKept.run_getObj_map e,d_,Sem.events_pure,k,i,events_underlying,yf e,yb b d.key,ye b d.c1];rfl
 |none=>
  constructor
  .simp only[Instr.lookup,cI,j,c7,MapKept.run_getObj_map e,d_,k,i,l a]
  simp only[Instr.lookup,aF,j,aK,MapKept.run_getObj_map e,d_,Sem.events_pure,k,i,events_underlying,yf e,yb b d.key,ye b d.c1,l a,events_zeroValue];rfl
def NA(y:P.underlying o=f (.map r ae))(a:P.underlying r=f I)(d:J.heap[bb]?=f (.map V clock)){g}{k}(e:Aw I V h g):
  (Instr.mapUpdate o (.map (f bb)) h k).run P J=.ok () {J with heap:=J.heap.setIfInBounds bb (match g with
   |some (n,_)=>.map (V.modify n λs=>{key:=h,val:=k,born:=s.born}) clock
   |none=>.map (V.push {key:=h,val:=k,born:=clock}) (clock+1))} /\
  (Instr.mapUpdate o (.map (f bb)) h k).events P J #[]=#[⟨.obj bb,v,v⟩,⟨.obj bb,m,v⟩]:=by
 have j:(underlying o).run P J=.ok (.map r ae) J:=by simp[underlying,y]
 have l:=Me (J:=J) a e.key v;have i:(Instr.findKey r h V.toList).run P J=.ok g J:=MapKept.run_findKey a e.c1;cases g with
 |some q=>
  obtain⟨n,z⟩:=q;obtain⟨s,u,w,_⟩:=e.gI n z rfl;have t:(Instr.keyThatStays h h).run P J=.ok h J:=MapKept.run_keyThatStays e.key;have x:∀b,(Instr.keyThatStays h h).events P J b=b:=λb=>by simp[Instr.keyThatStays,MapKept.sameBits_self e.key]
  constructor
  .simp only[Instr.mapUpdate,cI,j,c7,MapKept.run_getObj_map d,l,i,u,lJ,ir,w,t,MapKept.run_setObj_map _ d]
  simp only[Instr.mapUpdate,aF,j,aK,MapKept.run_getObj_map d,l,i,u,lJ,ir,w,t,x,events_underlying,yf d,Jl d,yb a e.key,ye a e.c1];rfl
 |none=>
  constructor
  .simp only[Instr.mapUpdate,cI,j,c7,MapKept.run_getObj_map d,l,i,MapKept.run_setObj_map _ d]
  simp only[Instr.mapUpdate,aF,j,aK,MapKept.run_getObj_map d,l,i,events_underlying,yf d,Jl d,yb a e.key,ye a e.c1];rfl
end
def bd.cf(i:bd l b){j7:Z->(Nat->Option Obj)->Prop}{L cp}(aG:l[d]?=f (.J H))(A:b.t[d]?=f L)(G:cp.v=L.v)(R:b.a.heap.size<=bj.heap.size)(K:∀e,e<b.a.heap.size->e∉L.al->bj.heap[e]?=b.a.heap[e]?)(D:∀e∈cp.al,e∈L.al∨(b.a.heap.size<=e/\e<bj.heap.size))(x:∃o,j7 cp.v o/\(∀e t,o e=f t->bj.heap[e]?=f t)/\(∀e,e∈cp.al↔(o e).isSome=m))(M:bj.os=b.a.os)(Y:bj.tape=b.a.tape)(O:bj.output=b.a.output):
  bd (l.set d (.J j7)) ⟨b.t.set d cp,b.E,bj,b.own⟩/\cN l b (l.set d (.J j7)) ⟨b.t.set d cp,b.E,bj,b.own⟩:=by
 have bz:d<c l:=(cO.1 aG).1;have ag:d<c b.t:=N;obtain⟨aa,_,_,_,y⟩:=i.box d _ L aG A;have X:∀e∈cp.al,∀t,b.E e t=p:=by
  intro e E t;rcases D e E with n|⟨n,_⟩
  .grind
  cases r:b.E e t with
  |none=>rfl
  |some U=>have:=i.block r;omega
 have B:cN l b (l.set d (.J j7)) ⟨b.t.set d cp,b.E,bj,b.own⟩:=by
  refine⟨R,N,λ_ _ _ i=>i,λ_ _ _ _=>rfl,N,?_,M,Y,O,a⟩;intro g I j u z;by_cases C:d=g
  .subst C;rw[aG]at u;cases u;rw[A]at z;cases z;exact⟨.J j7,cp,by grind,by grind,G⟩
  exact⟨I,j,by grind,by grind,.refl _ _⟩
 have J:∀g j,(b.t.set d cp)[g]?=f j->(g=d/\j=cp)∨(d≠g/\b.t[g]?=f j):=N;refine⟨⟨?_,by simp[i.len],?_,?_,?_,?_⟩,B⟩
 .intro e t U r;have ah:=i.block r;have ab:e∉L.al:=λs=>by grind
  rw[<-i.mem e t U r];simp only[aM];grind
 .intro g I j u z;rcases J g j z with⟨rfl,rfl⟩|⟨C,k⟩
  .rw[io bz]at u;cases u;obtain⟨o,k1,V,Q⟩:=x;exact⟨o,k1,V,Q,X⟩
  rw[j_ C]at u;refine(i.box g I j u k).ck B.ext i.len λe E=>⟨K e (i.lt j (ca k) e E) λs=>C (i.a3 d g L j A k e s E),λ_=>rfl⟩
 .intro W F q j n k e h w;rcases J W q n with⟨rfl,rfl⟩|⟨dN,T⟩<;>rcases J F j k with⟨rfl,rfl⟩|⟨eJ,S⟩
  .rfl
  .rcases D e h with s|s
   .exact i.a3 _ _ L j A S e s w
   have:=i.lt j (ca S) e w;omega
  .rcases D e w with s|s
   .exact i.a3 _ _ q L T A e h s
   have:=i.lt q (ca T) e h;omega
  exact i.a3 _ _ q j T S e h w
 .intro j z e w;rcases AP z with n|n
  .exact eE (i.lt j n e w) R
  subst n;rcases D e w with k|k
  .exact eE (i.lt L (ca A) e k) R
  grind
 intro e x;obtain⟨ae,ad⟩:=i.own e x;grind
section
variable {j7:Z->(Nat->Option Obj)->Prop}
end
def bX.dk{fn}{d}{res}(aS)(e:pK fn.results.toList aS F res=f ab)(k:U ab)(j:dy aS l=f ao)(i:l9 ao=m)(h:e_ aS=m)(g:∀b,b<d->aS[b]?=f b):
  bX fn d res ao .normal F l:=by refine⟨.inr a,aS,?_⟩;unfold pK at e;grind
def g.iz{b:ag P}{h}{aO}{res}(r:Y b h cR de res aO)(aS)(j:s.guard=p)(e:s.op=.call {callee:=.value cP,args:=ah,argTypes:=dn})(u:gR (bF F cP)=f (h,cap))(i:lb (ah.toList.map (bF F)++e4 cap)=gr aS cR)(n:g7 (c aS) cR=m)(o:dy aS l=f de)(t:ew de=m)(k:ew aO=m)(d:e_ aS=m)(q:ay (c aS) (c aO)=m)(x:fg D s.dst=m)(w:g b D be (.aj all bs::av) .normal (fW s.dst (e' (aS++gL (c l) (c aO-c aS)) res) F) (c' aS aO l)):g b D be (.aj all (s::bs)::av) .normal F l:=
 fc.call (λ_ _ _ _=>iZ j) e u aS r i n o t k d (fe q) s.dst a (lg x) w
def g.dp{d:ag P}{i}(t:bk d i cR de res aO)(aS)(k:s.guard=p)(h:s.op=.call {callee:=.value cP,args:=ah,argTypes:=dn})(x:gR (bF F cP)=f (i,cap))(j:lb (ah.toList.map (bF F)++e4 cap)=gr aS cR)(o:g7 (c aS) cR=m)(q:dy aS l=f de)(u:ew de=m)(n:∀b,ew (aO b)=m)(e:e_ aS=m)(r:∀b,ay (c aS) (c (aO b))=m)(y:fg D s.dst=m)(w:∀b,g d D be (.aj all bs::av) .normal (fW s.dst (e' (aS++gL (c l) (c (aO b)-c aS)) (res b)) F) (c' aS (aO b) l)):g d D be (.aj all (s::bs)::av) .normal F l:=
 fc.gT (λ_ _ _ _=>iZ k) h x aS t j o q u n e (λb=>fe (r b)) s.dst a (lg y) w
def g.aC{P:aI}{b:ag P}{D}{be}{av}{F}{l}{all bs}{s}{cP}{ah}{dn}{a}{cap}{cR}{de aO}{res}(w:Y b a cR de res aO)(aS)(d:(s.guard,s.op,gR (bF F cP),lb (ah.toList.map (bF F)++e4 cap),g7 (c aS) cR,dy aS l,ew de,ew aO,e_ aS,ay (c aS) (c aO),fg D s.dst)=(p,.call {callee:=.value cP,args:=ah,argTypes:=dn},f (a,cap),gr aS cR,m,f de,m,m,m,m,m))(r:g b D be (.aj all bs::av) .normal (fW s.dst (e' (aS++gL (c l) (c aO-c aS)) res) F) (c' aS aO l)):g b D be (.aj all (s::bs)::av) .normal F l:=by simp only[lK]at d;obtain⟨e,h,i,j,k,a,n,o,q,t,u⟩:=d;exact g.iz w aS e h i j k a n o q t u r
def g.a8{P:aI}{e:Type}{i:ag P}{D}{be}{av}{F}{l}{all bs}{s}{cP}{ah}{dn}{h}{cap}{cR}{de}{a:e->n an}{d:e->y}(x:bk i h cR de d a)(aS)(k:(s.guard,s.op,gR (bF F cP),lb (ah.toList.map (bF F)++e4 cap),g7 (c aS) cR,dy aS l,ew de,e_ aS,fg D s.dst)=(p,.call {callee:=.value cP,args:=ah,argTypes:=dn},f (h,cap),gr aS cR,m,f de,m,m,m))(j:∀b,(ew (a b),ay (c aS) (c (a b)))=(m,m))(z:∀b,g i D be (.aj all bs::av) .normal (fW s.dst (e' (aS++gL (c l) (c (a b)-c aS)) (d b)) F) (c' aS (a b) l)):g i D be (.aj all (s::bs)::av) .normal F l:=by simp only[lK]at k j;obtain⟨o,q,r,t,u,h,w,b,A⟩:=k;exact g.dp x aS o q r t u h w (λb=>(j b).1) b (λb=>(j b).2) A z
def l3:n y->n y->Option (n Prop)
 |[],[]=>f []
 |d::a,e::b=>match kq d e with
  |some g=>match l3 a b with
   |some h=>f (gD g h)
   |none=>p
  |none=>p
 |_,_=>p
def tm{l}{b}:∀{A:n Z}{e g:n y}{d:n Prop},l3 e g=f d->U d->b6 l b A e->b6 l b A g
 |[],[],[],_,_,_,_=>trivial
 |_::_,[],_,_,_,_,a=>a.elim
 |[],_::_,_,_,_,_,a=>a.elim
 |[],[],_::_,_,a,_,_=>by simp[l3]at a
 |_::_,_::_,[],_,a,_,_=>by simp[l3]at a
 |w::A,r::h,s::i,d,a,j,q=>by
  simp[l3]at a;cases k:kq r s with
  |none=>grind
  |some t=>
   cases o:l3 h i with
   |none=>grind
   |some u=>
    simp[k,o]at a;subst a;rw[U.Y]at j;exact⟨pz k j.1 q.1,tm o j.2 q.2⟩
def g.b0{d:ag P}{i}(x:bk d i cR de res aO)(aS)(n:s.guard=p)(h:s.op=.call {callee:=.value cP,args:=ah,argTypes:=dn})(y:gR (bF F cP)=f (i,cap))(j:l3 (ah.toList.map (bF F)++e4 cap) (gr aS cR)=f ab)(k:U ab)(q:g7 (c aS) cR=m)(r:dy aS l=f de)(z:ew de=m)(o:∀b,ew (aO b)=m)(e:e_ aS=m)(u:∀b,ay (c aS) (c (aO b))=m)(B:fg D s.dst=m)(w:∀b,g d D be (.aj all bs::av) .normal (fW s.dst (e' (aS++gL (c l) (c (aO b)-c aS)) (res b)) F) (c' aS (aO b) l)):g d D be (.aj all (s::bs)::av) .normal F l:=
 fc.eZ (λ_ _ _ _=>iZ n) h y aS x (λC A t=>tm j k t) q r z o e (λb=>fe (u b)) s.dst a (lg B) w
def ach{b:Act}{a}(d:a<b.tmps.size):(b.put (f a) aa).tmps.getD a K=aa:=by simp[Act.put,hp,uK d]
def du.of_eq{V dK}(a:V=dK)(d:du b dK):du b V:=N
def yg{z}{a:Sem Next}(e:du b (z.events P b.a #[]))(d:a=(do pure (.value (<-z)))):du b (a.events P b.a #[]):=by grind[jm]
def IO{a}{fn}{aj:Array Z->Sem Z}(d:P.funcs[a]?=f fn)(k:(fn.name== "runtime.NumGoroutine")=v)(t:fn.body.isNone=m)(j:Extern.findNext fn=p)(e:Extern.find fn=f aj)(args)(i:dC P (aj args))(b)(V):
  (callFunc a args).events P b V=V.push ⟨.mark (.extern a),v,m⟩:=by have h:fn.name≠ "runtime.NumGoroutine":=N;have g:fn.body=p:=wP;simp[callFunc,d,h,g,j,e];rw[i b]
section
variable {q:ag P}
def eC(P:aI)(o:Nat)(k:ap)(l:bI)(g:n an)(q:ι->y)(b:ι->n an):Prop:=
 ∀d h,bZ o g d l h->bd g d->∃e i a j,(ac h.eval k).run P d.a=.ok i a.a/\(i=.value j∨(i=.skip/\j=K))/\bx (b e) a j (q e)/\bd (b e) a/\cN g d (b e) a/\du d ((ac h.eval k).events P d.a #[])
def g.cJ(K:ι->y)(b:ι->n an)(Q:s.guard=p)(M:fg D s.dst=m)(T:eC P D s F l K b)(U:∀j,g q D be (.aj all bs::av) .normal (fW s.dst (K j) F) (b j)):g q D be (.aj all (s::bs)::av) .normal F l:=by
 intro ai O S i R B t N idx h a A;cases idx with
 |nil=>exact a.elim
 |cons ah idx=>
 refine rB h a.1 (iZ Q) λae u=>?_;have e:=i.rely u;have x:=S.rely u i;obtain⟨j,ad,k,ab,z,d,ag,I,J,aa⟩:=T ae O x e;have w:=J.too' e;refine⟨ad,k,ab,z,d,⟨⟨l,b j,e,I,J⟩,aa⟩,?_⟩;refine U j k _ ?_ I R B t N idx h a.2 λV o C r X W d E=>A V o C r X W d ((u.aY.trans w).trans E);cases Y:s.dst with
 |none=>exact x.mono w e.len
 |some Z=>exact(x.mono w e.len).put (lg M Z Y) ag
def g.aN{k}(d:a0 P s (bF F) l k ao)(a:s.guard=p)(b:fg D s.dst=m)(e:g q D be (.aj all bs::av) .normal (fW s.dst k F) ao):g q D be (.aj all (s::bs)::av) .normal F l:=
 g.R (.a1 (λ_ _ _ _=>iZ a) d) b e
def oZ(a:n ap)(d:bI)(g:ap):Bool:=match g.guard with
 |none=>m
 |some (e,b)=>match yA d a e with
  |some (f m)=>b
  |some (f v)=>!b
  |_=>v
def j4(a:oZ all F s=m):∀d h b,bZ D d h F b->aU s (yielded all.toArray b.tmps)=m:=by
 intro d h b g;unfold oZ at a;split at a
 .grind [iZ]
 rename_i j i e;split at a
 .rename_i r;simp only[aU,e,yB r g,a];rfl
 .rename_i r;simp only[aU,e,yB r g];grind
 grind
def g.iA{e}{aO}{res}(r:Y q e cR de res aO)(aS)(i:oZ all F s=m)(d:s.op=.call {callee:=.value cP,args:=ah,argTypes:=dn})(u:gR (bF F cP)=f (e,cap))(h:lb (ah.toList.map (bF F)++e4 cap)=gr aS cR)(k:g7 (c aS) cR=m)(n:dy aS l=f de)(t:ew de=m)(j:ew aO=m)(b:e_ aS=m)(o:ay (c aS) (c aO)=m)(x:fg D s.dst=m)(w:g q D be (.aj all bs::av) .normal (fW s.dst (e' (aS++gL (c l) (c aO-c aS)) res) F) (c' aS aO l)):g q D be (.aj all (s::bs)::av) .normal F l:=
 fc.call (j4 i) d u aS r h k n t j b (fe o) s.dst a (lg x) w
end
section
variable {q:ag P}
def g.fZ{dF}(d:g q D be (.code r::av) .normal dF ao){dr}(a:iT F dF=f ab)(w:U ab)(b:jp l ao=f dr)(i:U dr):g q D be (.code r::av) .normal F l:=
 g.bf ao b i (b2.le d (eH a w))
def Cp:n ik->n ik
 |.blk _::av=>Cp av
 |av=>av
def g.fC:∀{av:n ik},g q D be (Cp av) .normal F l->g q D be av .normal F l
 |[],a=>a
 |.blk _::av,a=>g.fC (av:=av) a
 |.code _::_,a=>a
 |.aj _ _::_,a=>a
def g.cq{t S2:Type}{iK}(id){x e}(o:iP id av=f x)(J:Go.AM.Cp x=.code iK::e)(B:S2->Prop)(dA:S2->bI)(w:S2->n an)(j)(s:t->Prop)(b:t->bI)(d:t->n an)(C:t->Nat)(k){a}(I:iT F (b k)=f ab)(i:U ab)(E:jp l (d k)=f a)(y:U a)(A:c l=j)(u:s k)(round:(∀h {F:bI} {l:n an} {ab a:n Prop},B h->iT F (dA h)=f ab->U ab->jp l (w h)=f a->U a->g q D be x .normal F l) ->
   ∀k,s k->g q D (mn q D be av s b d C j k) [.code r] .normal (b k) (d k))(after:∀h,B h->g q D be (.code iK::e) .normal (dA h) (w h)):g q D be (.code (.loop r)::av) .normal F l:=
 g.aE j s b d C k I i E y A u (round λh _ _ _ _ K z i o y=>g.fC (by rw[J];exact(after h K).fZ z i o y))
end
section
variable {q:ag P}
def iE(l:ag P)(r:Nat)(j:n y)(i:n an)(h:Bool)(e:ι->n an):Prop:=
 ∀a (A:n Z) (d:Nat),b6 i a A j->bd i a->(∃L,a.t[r]?=f L/\L.v=.func (.yield d) #[] #[]) ->
  ∃fn tmps assign body,(Instr.yield d A.toArray).run P a.a=.ok (.round d fn tmps assign body) a.a/\(Instr.yield d A.toArray).events P a.a #[]=#[⟨.obj d,v,v⟩] /\
  ∀(k:ak->a5->Prop) o g,(∀q b,bd (e q) b->dd i a (e q) b->cc l k (G (o.finish (.bool h)) g) b) ->
   cc l k (G (Frame.round d fn tmps assign body .normal) (o::g)) a
def zg{J}{b}(g:J.heap[d]?=f (.loop b)):(Instr.getLoop d).run P J=.ok b J/\∀a,(Instr.getLoop d).events P J a=a.push ⟨.obj d,v,v⟩:=by
 have e:(getObj d).run P J=.ok (.loop b) J:=by simp[getObj,Sem.run,g]
 have h:∀a,(getObj d).events P J a=a.push ⟨.obj d,v,v⟩:=λa=>by simp only[getObj,Sem.events,Sem.runT,g];rfl
 constructor
 .simp[Instr.getLoop,e]
 intro a;simp[Instr.getLoop,e,h]
def Ej{J}{e fX}(b:J.heap[d]?=f (.loop e)):(setObj d (.loop fX)).run P J=.ok () {J with heap:=J.heap.setIfInBounds d (.loop fX)}/\∀a,(setObj d (.loop fX)).events P J a=a.push ⟨.obj d,m,v⟩:=by
 constructor
 .simp only[setObj,Sem.run,b]
 intro a;simp[setObj,Sem.events,Sem.runT,b];rfl
def acK{J}{a}{args}(i:J.heap[d]?=f (.loop a))(b:args.size=a.params.size):
  (Instr.yield d args).run P J=.ok (.round d a.fn ((a.params.zip args).foldl (λtmps (j,g)=>tmps.setIfInBounds j g) a.tmps) a.assign a.body) J/\(Instr.yield d args).events P J #[]=#[⟨.obj d,v,v⟩]:=by
 obtain⟨e,h⟩:=zg (P:=P) i;constructor
 .simp[Instr.yield,e,b]
 simp[Instr.yield,e,h,b]
def acC{J}{a}(h:J.heap[d]?=f (.loop a))(b:a.state=.ready):
  (Instr.beginRound d).run P J=.ok () {J with heap:=J.heap.setIfInBounds d (.loop {a with state:=.busy})}/\(Instr.beginRound d).events P J #[]=#[⟨.obj d,v,v⟩,⟨.obj d,m,v⟩]:=by
 obtain⟨e,i⟩:=zg (P:=P) h;obtain⟨g,j⟩:=Ej (P:=P) (fX:={a with state:=.busy}) h;constructor
 .simp[Instr.beginRound,e,g,b]
 simp[Instr.beginRound,e,i,g,j,b]
def acF{J}{a}(g:J.heap[d]?=f (.loop a))(u):
  (Instr.endRound d u).run P J=.ok (.bool u.isNone) {J with heap:=J.heap.setIfInBounds d (.loop {a with state:=if u.isNone then .ready else .done,pending:=u})}/\(Instr.endRound d u).events P J #[]=#[⟨.obj d,v,v⟩,⟨.obj d,m,v⟩]:=by
 obtain⟨b,h⟩:=zg (P:=P) g;obtain⟨e,i⟩:=Ej (P:=P) (fX:={a with state:=if u.isNone then .ready else .done,pending:=u}) g;constructor
 .simp only[Instr.endRound,cI,b,e,c7,d_]
 simp only[Instr.endRound,aF,b,h,e,i,aK,Sem.events_pure];rfl
def acE{J}{a}(g:J.heap[d]?=f (.loop a))(b:a.state≠.busy):
  (Instr.endLoop d).run P J=.ok a.pending {J with heap:=J.heap.setIfInBounds d (.loop {a with state:=.exhausted})}/\(Instr.endLoop d).events P J #[]=#[⟨.obj d,v,v⟩,⟨.obj d,m,v⟩]:=by
 obtain⟨e,h⟩:=zg (P:=P) g;obtain⟨j,i⟩:=Ej (P:=P) (fX:={a with state:=.exhausted}) g;have k:(a.state==.busy)=v:=by cases l:a.state<;>simp_all
 constructor
 .simp[Instr.endLoop,e,j,b]
 simp[Instr.endLoop,e,h,i,b]
section steps
variable {i:aL}{w:Act}{h:n Item}{J:au}{eS:Bool}
def acL(ck:s.op=.call {callee:=.value cP,args:=ah,argTypes:=dn})(r:w.eval cP=.func (.yield d) #[] #[]):
  (ac w.eval s).run P J=(Instr.yield d (ah.toList.map w.eval).toArray).run P J/\(ac w.eval s).events P J #[]=(Instr.yield d (ah.toList.map w.eval).toArray).events P J #[]:=by
 have I:ah.map w.eval=(ah.toList.map w.eval).toArray:=N;constructor
 .exact Rv
 exact Rv
def acX{bs}{fn}{tmps}{assign body}(a:aH[e]?=f s)(g:aU s (yielded aH w.tmps)=m)(k:i.kind≠.early)(j:(ac w.eval s).run P J=.ok (.round d fn tmps assign body) bj):
  ar P eS (G (i.N w (.inRegion aH (e::bs)::h)) ai) J=.go (G (Frame.round d fn tmps assign body .normal) (i.N w (.inRegion aH (e::bs)::h)::ai)) bj (Go.Conc.listed P i.fn w s J):=by have b:(i.kind==CallKind.early)=v:=N;rw[zl a g (λl n=>by grind[x8])];simp[stepG.apply,j,G,Frame.N,b,GStep.after,Go.Conc.listed]
def acS{a}(k:i.roundOf=f d)(n:i.kind≠.early)(l:J.heap[d]?=f (.loop a))(g:a.state=.ready):
  ar P eS (G (i.N w (.beginRound::h)) ai) J=.go (G (i.N w h) ai) {J with heap:=J.heap.setIfInBounds d (.loop {a with state:=.busy})} (seen P i.fn #[⟨.obj d,v,v⟩,⟨.obj d,m,v⟩]):=by obtain⟨j,e⟩:=acC (P:=P) l g;have b:(i.kind==CallKind.early)=v:=N;simp[G,ar,stepG.exec,stepG.apply,Frame.N,k,b,j,e,GStep.after,Frame.finish]
def acY{b}{u}{a}{r}(B:i.roundOf=f d)(bT:i.kind=.normal)(e:J.heap[d]?=f (.loop b))(g:(u=p/\a=[])∨(u=f .ret/\∃k1,a=.code .ret::k1)∨(∃id k1,u=f (.exit id)/\a=.code (.exit id)::k1/\exitTo id k1=p)):
  ar P eS (G (i.N w a) (r::ai)) J=.go (G (r.finish (.bool u.isNone)) ai) {J with heap:=J.heap.setIfInBounds d (.loop {b with state:=if u.isNone then .ready else .done,pending:=u})} (seen P i.fn #[⟨.obj d,v,v⟩,⟨.obj d,m,v⟩]):=by
 obtain⟨I,ae⟩:=acF (P:=P) e u;rcases g with⟨rfl,rfl⟩|⟨rfl,k1,rfl⟩|⟨id,k1,rfl,rfl,z⟩
 .simp only[Option.isNone_none,dH]at I;exact Pk
 .simp only[Option.isNone_some,dh,ka]at I;exact Pk
 simp[Option.isNone_some,dh,ka]at I;simp[G,ar,stepG.exec,Frame.N,B,I,ae,GStep.after,doReturn,bT,z]
def acT{a}(j:J.heap[d]?=f (.loop a))(g:a.state≠.busy):
  ar P eS (G (i.N w (.endRangeFunc d::h)) ai) J=.go (G (i.N w ((a.pending.map Item.code).toList++h)) ai) {J with heap:=J.heap.setIfInBounds d (.loop {a with state:=.exhausted})} (seen P i.fn #[⟨.obj d,v,v⟩,⟨.obj d,m,v⟩]):=by obtain⟨b,e⟩:=acE (P:=P) j g;simp[G,ar,stepG.exec,Frame.N,b,e,GStep.after]
def acG{fn}{tmps}{params}{assign body}:
  (Instr.enterLoop fn tmps params assign body p).run P J=.ok (J.heap.size+1,[{target:=.collected J.heap.size,args:=#[]}]) {J with heap:=(J.heap.push (.deferred (f []))).push (.loop {state:=.ready,pending:=p,fn,tmps,params,assign,body,defers:=J.heap.size})} /\
  (Instr.enterLoop fn tmps params assign body p).events P J #[]=#[]:=by
 have d:∀b J,(newObj b).run P J=.ok J.heap.size {J with heap:=J.heap.push b}:=λb J=>by simp[newObj,Sem.run]
 have e:∀b J a,(newObj b).events P J a=a:=λb J a=>by simp[newObj,Sem.events,Sem.runT]
 constructor
 .simp[Instr.enterLoop,d];rfl
 simp[Instr.enterLoop,d,e]
def acW{b}{ab}{assign body}{a}{fn}{r}(x:i.roundOf=p)(o:i.kind≠.early)(q:P.funcs[a]?=f fn)(z:(fn.name== "runtime.NumGoroutine")=v)(y:fn.body.isNone=v)(s:w.eval b=.func (.func a) #[] r.toArray):
  ar P eS (G (i.N w (.code (.rangeFunc b ab assign body)::h)) ai) J =
   .go (G (Frame.enter P a (Value.func (.yield (J.heap.size+1)) #[] #[]::r).toArray .normal) (i.N {w with defers:={target:=.collected J.heap.size,args:=#[]}::w.defers} (.inRangeFunc (J.heap.size+1)::h)::ai))
    {J with heap:=(J.heap.push (.deferred (f []))).push (.loop {state:=.ready,pending:=p,fn:=i.fn,tmps:=w.tmps,params:=ab,assign,body,defers:=J.heap.size})} #[]:=by
 obtain⟨u,t⟩:=acG (P:=P) (J:=J) (fn:=i.fn) (tmps:=w.tmps) (params:=ab) (assign:=assign) (body:=body);have n:(i.kind==CallKind.early)=v:=N;have l:fn.name≠ "runtime.NumGoroutine":=N;have k:fn.body≠p:=N;have e:∀d j g,({fn:=i.fn,tmps:=w.tmps,todo:=j,defers:=d,mode:=g,kind:=i.kind,roundOf:=i.roundOf}:aL).eval b=.func (.func a) #[] r.toArray:=by intro d j g;rw[<-s];cases b<;>rfl
 simp[G,ar,stepG.exec,Frame.N,x]at e⊢;simp[u,t,GStep.after,stepG.apply,resolve,e,Deferred.ofValue,invoke,callFunc,q,l,k,n,seen];rfl
end steps
end
section
variable {q:ag P}
def bd.fO(i:bd l b){g:Nat}{a}{k}(aG:l[g]?=f (.loop D a k))(j:∃L,b.t[g]?=f L/\L.v=.func (.yield d) #[] #[]):
  ∃tmps fn e,b.t[g]?=f ⟨.func (.yield d) #[] #[],[d]⟩/\b.a.heap[d]?=f (.loop {k with tmps:=tmps,fn:=fn,defers:=e})/\tmps.size=D/\(∀n,bx l b (tmps.getD n K) (look a n))/\(∀r,b.E d r=p):=by obtain⟨L,h,o⟩:=j;obtain⟨q,tmps,fn,e,x,t,w,s,u⟩:=i.box g _ L aG h;grind
def bd.gD(i:bd l b){j}{h}{u fX}{ec}(aG:l[j]?=f (.loop D h u)){tmps}{fn e}(x:b.t[j]?=f ⟨.func (.yield d) #[] #[],[d]⟩)(C:b.a.heap[d]?=f (.loop {u with tmps:=tmps,fn:=fn,defers:=e}))(M:tmps.size=D)(B:∀n,bx l b (tmps.getD n K) (look h n))(I:∀t,b.E d t=p)(w:ec=.M∨ec=.loop D h fX):
  bd (l.set j ec) {b with a:={b.a with heap:=b.a.heap.setIfInBounds d (.loop {fX with tmps:=tmps,fn:=fn,defers:=e})}}/\cN l b (l.set j ec) {b with a:={b.a with heap:=b.a.heap.setIfInBounds d (.loop {fX with tmps:=tmps,fn:=fn,defers:=e})}}:=by
 have S:d<b.a.heap.size:=i.lt _ (ca x) d E;have r:∀g,g≠d->(b.a.heap.setIfInBounds d (.loop {fX with tmps:=tmps,fn:=fn,defers:=e}))[g]?=b.a.heap[g]?:=λg k=>by grind
 have R:b.t.set j ⟨.func (.yield d) #[] #[],[d]⟩=b.t:=m4;have Q:j<c l:=(cO.1 aG).1;have z:fJ (.loop D h u) ⟨.func (.yield d) #[] #[],[d]⟩ ec ⟨.func (.yield d) #[] #[],[d]⟩:=by rcases w with rfl|rfl<;>rfl
 have o:fm l b (l.set j ec) {b with a:={b.a with heap:=b.a.heap.setIfInBounds d (.loop {fX with tmps:=tmps,fn:=fn,defers:=e})}}:=by
  refine⟨λ_ _ _ q=>q,λF y L U A=>?_⟩;by_cases O:j=F
  .grind
  exact⟨y,L,by grind,A,.refl _ _⟩
 have:=i.cc (ce:=b.E) (bj:={b.a with heap:=b.a.heap.setIfInBounds d (.loop {fX with tmps:=tmps,fn:=fn,defers:=e})}) (ec:=ec) (cp:=⟨.func (.yield d) #[] #[],[d]⟩) aG x z E (λg _ k=>r g N) (λ_ _ _ _=>rfl) (λ_ _ _ q=>q)
  (λg t J s=>by
   have T:g≠d:=N;rw[<-i.mem g t J s];simp[aM]
   grind) (λg k=>by grind) a a a (by
   rcases w with rfl|rfl
   .trivial
   .refine⟨d,tmps,fn,e,a,N,M,λn=>?_,I⟩
    .have:=(B n).mono o i.len
     grind)
 grind
def g.yield{d:ι->n an}{e}{bg}{res}(aP:iE q e bg l res d)(H:s.guard=p)(ak:fg D s.dst=m)(N:s.op=.call {callee:=.value cP,args:=ah,argTypes:=dn}){N0}{il}{bb}(Z:l[e]?=f (.loop N0 il bb))(ae:bF F cP=.p (.R (.aV e)))(aJ:ah.toList.map (bF F)=bg)(h:∀R,g q D be (.aj all bs::av) .normal (fW s.dst (aw (.bool res)) F) (d R)):g q D be (.aj all (s::bs)::av) .normal F l:=by
 intro aI w ar t i x C Y idx r b M;cases idx with
 |nil=>exact b.elim
 |cons R idx=>
 refine .next a λo aG=>?_;have W:=q.bO aG;have k:=t.rely W;have T:=ar.rely W t;have X:=eO T cP;rw[ae]at X;obtain⟨_,L,V,Q,_⟩:=(show cx _ o _ (.aV e)from X)
 obtain⟨S,tmps,fn,aq,ag,au,ax,az,aA⟩:=k.box e _ L Z V;subst ag;have aC:b6 l o (ah.toList.map w.eval) bg:=by grind[na,eO]
 obtain⟨aH,aK,assign,body,ab,ao,ad⟩:=aP o (ah.toList.map w.eval) S aC k ⟨_,V,rfl⟩;obtain⟨G,ai⟩:=acL (P:=P) (J:=o.a) (w:=w) N Q;refine⟨_,o,_,acX b.1 (iZ H) r (G.trans ab),⟨⟨l,l,k,k,.refl _ _⟩,du.seen ?_⟩,ad Y _ _ λO y u j=>?_⟩
 .rw[ai,ao];exact .R (mD (L:=⟨.func (.yield S) #[] #[],[S]⟩) (ca V) E)
 have I:=qw (i:=i) (w:=w) (h:=x) all.toArray R idx (.bool res);rw[b.1]at I;simp[oc]at I;rw[I];refine h O y _ ?_ u i x C Y idx r b.2 λaD A U B aE aj K z=>M aD A U B aE aj K ((W.aY.trans j).trans z);cases aa:s.dst with
 |none=>exact T.mono j k.len
 |some aF=>exact(T.mono j k.len).put (lg ak aF aa) (show bx (d O) y (.bool res) (aw (.bool res))from Rd.bool)
def rC:n Tmp->n y->bI->bI
 |g::d,e::b,a=>rC d b ((g,e)::a)
 |_,_,a=>a
def y9(b:Nat):n Tmp->Bool
 |[]=>m
 |d::a=>match ay (d+1) b with|true=>y9 b a|false=>v
def GS{D}{l}{b}:∀{e:n Tmp}{a:n y}{A:n Z}{F:bI}{w:Act},bZ D l b F w->b6 l b A a->y9 D e=m->bZ D l b (rC e a F) {w with tmps:=(e.zip A).foldl (λtmps (i,j)=>tmps.setIfInBounds i j) w.tmps}
 |[],a,A,F,w,d,_,_=>by simpa[rC]using d
 |_::_,[],[],F,w,d,_,_=>by simpa[rC]using d
 |_::_,[],_::_,F,w,d,g,_=>g.elim
 |_::_,_::_,[],F,w,d,g,_=>g.elim
 |i::o,I::a,j::A,F,w,d,g,h=>by
  simp[y9]at h;split at h
  .rename_i k;have:=GS (d.put (I:=i) (fe k) g.1) g.2 h;simpa[rC,Act.put]using this
  grind
def aaN:Exit->Option (Option Code)
 |.normal=>f p
 |.ret=>f (f .ret)
 |.exit id=>f (f (.exit id))
 |_=>p
def iE.intro{a4:Type}{h D}{e}{b}{bg}{l}{J:a4->n an}{u}(aS:l[h]?=f (.loop D e b))(bj:b.state=.ready)(aM:c bg=b.params.size)(X:y9 D b.params.toList=m)(bn:b2 q D b.assign (λx H g=>x=.normal/\g[h]?=f (.loop D e b)/\b2 q D b.body (λx bb s=>aaN x=f u/\s[h]?=f (.loop D e {b with state:=.busy}) /\
   ∃bp,ri (s.set h (.loop D e {b with state:=if u.isNone then .ready else .done,pending:=u})) (J bp)) H (g.set h (.loop D e {b with state:=.busy}))) (rC b.params.toList bg e) l):iE q h bg l u.isNone J:=by
 intro z A d aa W aK;obtain⟨tmps,fn,bm,U,aF,aG,aH,bo⟩:=W.fO aS aK;have ba:c A=b.params.size:=by grind[b6.get]
 obtain⟨a2,a3⟩:=acK (P:=P) (args:=A.toArray) aF N;refine⟨_,_,_,_,a2,a3,λaj ak j aI=>?_⟩;let E:aL:={fn:=fn,tmps:=#[],todo:=[],defers:=[],mode:=.run,kind:=.normal,roundOf:=f d}
 have o:E.kind≠.early:=by simp[E]
 have aJ:bZ D l z (rC b.params.toList bg e) {tmps:=(b.params.zip A.toArray).foldl (λtmps (a1,w)=>tmps.setIfInBounds a1 w) tmps,defers:=[]}:=by
  have:=GS (w:={tmps:=tmps,defers:=[]}) (F:=e) ⟨aG,⟨[],C⟩,aH⟩ aa X;have x:(b.params.zip A.toArray).foldl (λtmps (ae:Tmp×Z)=>tmps.setIfInBounds ae.1 ae.2) tmps=(b.params.toList.zip A).foldl (λtmps (ae:Tmp×Z)=>tmps.setIfInBounds ae.1 ae.2) tmps:=by rw[<-Array.foldl_toList];simp
  grind
 show cc q aj (G (E.N {tmps:=(b.params.zip A.toArray).foldl (λtmps (a1,w)=>tmps.setIfInBounds a1 w) tmps,defers:=[]} [.code b.assign,.beginRound,.code b.body]) (ak::j)) z;refine bn z _ aJ W E [.beginRound,.code b.body] (ak::j) aj o ?_;rintro x H g br aw ⟨rfl,aR,bq⟩ az a7 Q;refine .next a λaZ Y=>?_;have ai:=q.bO Y;have M:=a7.rely ai;have aA:=az.rely ai a7;have bl:∃L,aZ.t[h]?=f L/\L.v=.func (.yield d) #[] #[]:=by obtain⟨au,t,k1,y,av⟩:=(Q.trans ai.aY).box h _ _ aS U;rw[aR]at k1;cases k1;exact⟨t,y,av⟩
 obtain⟨aq,a_,a8,S,T,aC,aD,aE⟩:=M.fO aR bl;have ah:=M.gD (fX:={b with state:=.busy}) aR S T aC aD aE (.inr rfl);have O:∀{z:a5} {l:n an} {L:Loc},z.t[h]?=f L->L.al=[d]->du z #[⟨.obj d,v,v⟩,⟨.obj d,m,v⟩]:=λ{z l L} V o=>
  .fp (mD (ca V) N) (mD (ca V) N)
 refine⟨_,_,_,acS (d:=d) a o T bj,⟨⟨_,_,M,ah.1,ah.2⟩,du.seen (O (l:=g) S a)⟩,?_⟩;have a6:=ah.2.too' M;have bh:=ah.1;refine bq _ aw (aA.mono a6 M.len) bh E [] (ak::j) aj o ?_;rintro x bc bf a0 ax ⟨r,aQ,aO,bs⟩ f3 bt aP;have stA:=((Q.trans ai.aY).trans a6).trans aP;have fin:∀I i,cU a0 i->((u=p/\I=[])∨(u=f .ret/\∃k1,I=.code .ret::k1)∨(∃id k1,u=f (.exit id)/\I=.code (.exit id)::k1/\exitTo id k1=p)) ->
   ∃R B K,ar P q.b7 (G (E.N ax I) (ak::j)) i.a=.go R B.a K/\kG i B K/\cc q aj R B:=by
  intro I i k bk;have ao:=bt.rely k;have bd:∃L,i.t[h]?=f L/\L.v=.func (.yield d) #[] #[]:=by obtain⟨au,t,k1,y,av⟩:=(stA.trans k.aY).box h _ _ aS U;rw[aQ]at k1;cases k1;exact⟨t,y,av⟩
  obtain⟨bu,a',a9,ab,ad,aT,aU,aV⟩:=ao.fO aQ bd;have ag:=ao.gD (fX:={b with state:=if u.isNone then .ready else .done,pending:=u}) aQ ab ad aT aU aV (.inr rfl);obtain⟨aW,aX,_⟩:=bs _ ag.1;exact⟨_,_,_,acY (d:=d) a a ad bk,⟨⟨_,_,ao,ag.1,ag.2⟩,du.seen (O (l:=bf) ab a)⟩,aI aO _ aW (((stA.trans k.aY).trans (ag.2.too' ao)).trans (aX.too' ag.1))⟩
 cases x with
 |normal=>
  cases r;exact .next a λi k=>fin [] i (q.bO k) (.inl ⟨a,a⟩)
 |ret=>
  cases r;intro pre;exact .next a λi k=>fin _ i (q.bO k) (.inr (.inl ⟨a,pre,a⟩))
 |exit id=>
  cases r;intro pre aN;refine .next a λi k=>fin _ i (q.bO k) (.inr (.inr ⟨id,_,a,a,?_⟩));have:=aN [];simpa[exitTo]using this
 |_=>cases r
end
def dc(o:ag P)(k:Nat)(u:Code)(aP:fv)(t:bI)(j:n an):Prop:=
 ∀i q,bZ k j i t q->bd j i->∀h s g (l:ak->a5->Prop),h.kind≠.early->h.roundOf=p ->
  (∀r d a b e,aP r d a->bZ k a b d e->bd a b->dd j i a b->kO o l h s g r e b)->cc o l (G (h.N q (.code u::s)) g) i
section
variable {q:ag P}{aP:fv}
def b2.bA(k:b2 q D r aP F l):dc q D r aP F l:=λo g j d h n a e b _ i=>k o g j d h n a e b i
theorem dc.seq{k X}(S:dc q D k (wn (dc q D X aP) aP) F l):dc q D (.seq k X) aP F l:=by
 intro V Q T e B K g A i b h;refine .ctl e a (λ_=>pM) λU d=>?_;refine S U Q (T.rely d e) (e.rely d) B (.code X::K) g A i b ?_;intro s N O x o M J I z;have C:=d.aY.trans z;cases s with
 |normal=>exact M x o J I B K g A i b λs R n y r w t u j=>h s R n y r w t u (C.trans j)
 |_=>exact kO.cons (λ_ _=>rfl) E (h _ _ _ _ _ M J I C)
theorem dc.block{id}(x:dc q D r (uU id aP) F l):dc q D (.block id r) aP F l:=by
 intro C s y e t h i o j g lX;refine .ctl e a (λ_=>zj) λz d=>?_;refine x z s (y.rely d e) (e.rely d) t (.inBlock id::h) i o j g ?_;intro aj dF ao k fL bc B ae n;have I:=d.aY.trans n;cases aj with
 |normal=>
  exact Pn
 |exit b=>
  simp[uU]at bc;split at bc
  .exact Q5
  .rename_i u
   intro pre vr;have:=lX (.exit b) dF ao k fL bc B ae I (pre++[.inBlock id]) (λgb=>by
    rw[mt,vr];have:(id==b)=v:=N
    simp[exitTo,this])
   grind
 |ret=>exact lX _ _ _ _ _ bc B ae I
 |panic w=>exact lX _ _ _ _ _ bc B ae I
 |goto A=>exact lX _ _ _ _ _ bc B ae I
 |outgrown=>exact lX _ _ _ _ _ bc B ae I
def bd.jR(a:bd l b){s:Nat->Prop}(h:∀e,s e->e<b.a.heap.size/\∀L∈b.t,e∉L.al):bd l {b with own:=s}:=
 ⟨a.mem,a.len,λj d L aG g=>ey.ck (l:=l) (b:=b) (ao:=l) (az:={b with own:=s}) ⟨λ_ _ _ a=>a,λ_ d L a i=>⟨d,L,a,i,.refl _ _⟩⟩ a.len (λ_ _=>⟨rfl,λ_=>rfl⟩) (a.box j d L aG g),a.a3,a.lt,h⟩
def bd.bM(e:bd l b){bb}{s:Nat->Prop}(y:b.own bb)(r:∀i,s i->b.own i)(E:¬s bb)(B:∀C,b.E bb C=p)(w:b.a.heap[bb]?=f (.deferred (f []))):
  bd (l++[.bo]) {b with t:=b.t++[⟨.int .i64 bb,[bb]⟩],own:=s}/\eY b {b with t:=b.t++[⟨.int .i64 bb,[bb]⟩],own:=s}:=by
 obtain⟨J,I⟩:=e.own bb y;have q:fm l b (l++[.bo]) {b with t:=b.t++[⟨.int .i64 bb,[bb]⟩],own:=s}:=by refine⟨λ_ _ _ e=>e,λk n L aG d=>⟨n,L,N,?_,.refl _ _⟩⟩;grind
 refine⟨⟨e.mem,by simp[e.len],?_,?_,?_,?_⟩,⟨a,λ_ _ _ e=>e,λ_ _ _=>rfl,e.mem,?_⟩⟩
 .intro k n L aG d;rcases rN d with u|⟨g,rfl⟩
  .have g:k<c l:=by rw[<-e.len];grind
   rw[kH g]at aG;exact(e.box k n L aG u).ck q e.len λ_ _=>⟨a,λ_=>rfl⟩
  rw[g,e.len,hr (bE _)]at aG;simp at aG;subst aG;exact⟨bb,a,w,B⟩
 .intro k t L o d h i cT j;rcases rN d with k1|⟨z,rfl⟩<;>rcases rN h with x|⟨A,rfl⟩
  .exact e.a3 k t L o k1 x i cT j
  .grind
  .grind
  grind
 .intro L d i cT;simp[gl,gY]at d;rcases d with d|rfl
  .exact e.lt L d i cT
  grind
 .intro i cT;obtain⟨F,D⟩:=e.own i (r i cT);grind
 grind
def y6:Option Code->Option Exit
 |none=>f .normal
 |some .ret=>f .ret
 |some (.exit id)=>f (.exit id)
 |_=>p
def dc.rangeFunc{bO}{ab}{assign body}{bH}{pj}{ao:ι->n an}{fX:ι->Loop}(aH:∀b u,bZ D l b F u->bd l b->∃aX:n Z,u.eval bO=.func (.func bH) #[] aX.toArray/\b6 l b aX pj)(aI:bk q bH (.p (.R (.aV (c l)))::pj) (l++[.loop D F {state:=.ready,pending:=p,fn:=0,tmps:=#[],params:=ab,assign:=assign,body:=body,defers:=0}]) res ao)(bn:∀t,(ao t)[c l]?=f (.loop D F (fX t))/\(fX t).state≠.busy)(h:∀t,∃ak,y6 (fX t).pending=f ak/\aP ak F ((ao t).set (c l) .M++[.bo])):dc q D (.rangeFunc bO ab assign body) aP F l:=by
 intro b u bc aK i z ai bK d aR bl;obtain⟨⟨fn,aJ,W,b4⟩,b5⟩:=aI;refine .next a λe aO=>?_;have X:=q.bO aO;have w:=aK.rely X;have ah:=bc.rely X aK;obtain⟨aX,bt,O⟩:=aH e u ah w;generalize aQ:e.a.heap.size=bb;have bT:=λeS=>acW (P:=P) (eS:=eS) (h:=z) (ai:=ai) (ab:=ab) (assign:=assign) (body:=body) (i:=i) (J:=e.a) aR d aJ W b4 bt;rw[aQ]at bT;let w1:au:={e.a with heap:=e.a.heap.push (.deferred (f []))}
 let aU:Loop:={state:=.ready,pending:=p,fn:=i.fn,tmps:=u.tmps,params:=ab,assign:=assign,body:=body,defers:=bb}
 let w2:au:={e.a with heap:=(e.a.heap.push (.deferred (f []))).push (.loop aU)}
 have bR:w2.heap.size=bb+2:=N;have bs:w1.heap.size=bb+1:=N;have aL:∀i,i<e.a.heap.size->w1.heap[i]?=e.a.heap[i]?:=λi d=>by grind
 have V:∀i,i<w1.heap.size->w2.heap[i]?=w1.heap[i]?:=λi d=>by grind
 have bI:∀i,i<e.a.heap.size->w2.heap[i]?=e.a.heap[i]?:=λi d=>by grind
 have bu:w2.heap[bb]?=f (.deferred (f [])):=N;have Y:w2.heap[bb+1]?=f (.loop aU):=N;have bx:∀i,e.a.heap.size<=i->∀s,e.E i s=p:=λi d s=>by
  cases o:e.E i s with
  |none=>rfl
  |some ae=>have:=w.block o;omega
 let j:Loc:=⟨.func (.yield (bb+1)) #[] #[],[bb+1]⟩
 let I:Loc:=⟨.int .i64 bb,[bb]⟩
 let B:Loop:={state:=.ready,pending:=p,fn:=0,tmps:=#[],params:=ab,assign:=assign,body:=body,defers:=0}
 obtain⟨bf,bg⟩:=w.cX (ce:=e.E) (bj:=w2) x bI (λ_ _ _=>rfl) (λi d s ae o=>by grind) rfl rfl rfl;have Q:fm l e (l++[.loop D F B]) ⟨e.t++[j],e.E,w2,e.own⟩:=by refine⟨λ_ _ _ bh=>bh,λbS bY L aG g=>⟨bY,L,N,?_,.refl _ _⟩⟩;grind
 obtain⟨S,bX⟩:=bf.b2 (bY:=.loop D F B) (L:=j) bg rfl w ⟨bb+1,u.tmps,i.fn,bb,rfl,Y,ah.size,λb3=>(ah.aK b3).mono Q w.len,λs=>bx _ x s⟩ (λi d=>by grind)
 have aD:=S.jR (s:=λi=>e.own i∨i=bb) (by
  rintro i (d|rfl)
  .exact S.own i d
  .refine⟨by grind,λL g=>?_⟩;simp[gl,gY]at g;rcases g with g|rfl
   .intro av;have:=w.lt L g i av;omega
   grind)
 have d1:=w.eb;obtain⟨a1,a2⟩:=d1.cX (ce:=e.E) (bj:=w1) x aL (λ_ _ _=>rfl) (λi d s ae o=>by grind) rfl rfl rfl;obtain⟨aq,a3⟩:=a1.b2 (bY:=.M) (L:=I) a2 rfl d1 C (λi d=>by grind);obtain⟨a4,a6⟩:=aq.cX (ce:=e.E) (bj:=w2) N V (λ_ _ _=>rfl) (λi d s ae o=>by grind) rfl rfl rfl;obtain⟨a8,a9⟩:=a4.b2 (bY:=.M) (L:=j) a6 rfl aq C (λi d=>by grind);have aE:eY ⟨e.t++[I]++[j],e.E,w2,e.own⟩ ⟨e.t++[j],e.E,w2,λi=>e.own i∨i=bb⟩:=by
  refine⟨a,λ_ _ _ bh=>bh,λ_ _ _=>rfl,S.mem,?_⟩;rintro i ((d|rfl)|⟨L,g,d⟩)
  .grind
  .exact .inr ⟨I,by simp,by grind⟩
  grind
 refine⟨_,⟨e.t++[I]++[j],e.E,w2,e.own⟩,_,bT q.b7,⟨⟨_,_,d1,a8,a3.trans a9⟩,.nil⟩,.aU aE (b5 _ (Value.func (.yield (bb+1)) #[] #[]::aX) ?_ aD bK _ λt bP ae b1 bU br bN aW=>?_)⟩
 .refine⟨⟨λbY A=>?_,j,?_,a,a⟩,?_⟩
  .rw[hr (bE _)]at A;simp at A;subst A;rfl
  .show (e.t++[j])[c l]?=_;rw[<-w.len,hr (bE _)];simp
  exact O.mono (l:=l) (b:=e) (ao:=l++[.loop D F B]) (az:=⟨e.t++[j],e.E,w2,λi=>e.own i∨i=bb⟩) ⟨Q.mem,Q.box⟩ w.len
 have T:(i.N {u with defers:={target:=.collected bb,args:=#[]}::u.defers} (.inRangeFunc (bb+1)::z)).finish ae=i.N {u with defers:={target:=.collected bb,args:=#[]}::u.defers} (.endRangeFunc (bb+1)::z):=cQ;refine uP (ai:=ai) (r:=i.N {u with defers:={target:=.collected bb,args:=#[]}::u.defers} (.inRangeFunc (bb+1)::z)) bN bU λb2 bM=>?_;rw[T];refine .next a λM bW=>?_;have bL:=q.bO bW;have aZ:=(bN.rely bM).rely bL;have bJ:=(aW.trans bM.aY).trans bL.aY;obtain⟨bG,aM⟩:=bn t;have aF:∃L,M.t[c l]?=f L/\L.v=.func (.yield (bb+1)) #[] #[]:=by obtain⟨ec,ag,k1,aS,aT⟩:=bJ.box (c l) (.loop D F B) j (show(l++[an.loop D F B])[c l]?=_ from w8) (by show(e.t++[j])[c l]?=_;rw[<-w.len,hr (bE _)];simp);rw[bG]at k1;cases k1;exact⟨ag,aS,aT⟩
 obtain⟨H,ar,aj,aa,aV,bz,bB,bC⟩:=aZ.fO bG aF;obtain⟨K,ad⟩:=aZ.gD (fX:={fX t with state:=.exhausted}) (ec:=.M) bG aa aV bz bB bC (.inl rfl);refine⟨_,_,_,acT aV aM,⟨⟨_,_,aZ,K,ad⟩,du.seen (.fp (mD (ca aa) E) (mD (ca aa) E))⟩,?_⟩;have y:=bJ.trans (ad.too' aZ);generalize bQ:({M with a:={M.a with heap:=M.a.heap.setIfInBounds (bb+1) (.loop {{fX t with state:=.exhausted}with tmps:=H,fn:=ar,defers:=aj})}}:a5)=k at K ad y;have aC:k.own bb:=by rw[y.own];grind
 have aA:k.a.heap[bb]?=f (.deferred (f [])):=by rw[y.a6 bb (.inr a)];omega
 have ax:∀s,k.E bb s=p:=λs=>by rw[y.bG bb N (λL g=>(aD.own bb (.inr a)).2 L g)];grind
 obtain⟨bF,t2⟩:=K.bM (bb:=bb) (s:=e.own) aC (λi d=>by rw[y.own];grind) (λav=>by have:=(w.own bb av).1;omega) ax aA;refine .aU t2 ?_;have a0:dd l e ((ao t).set (c l) .M++[.bo]) {k with t:=k.t++[⟨.int .i64 bb,[bb]⟩],own:=e.own}:=by
  refine⟨N,λi d=>?_,λi s ae o=>y.mem i s ae o,λi d b0 s=>?_,λL g i d=>?_,λbS bY L aG g=>?_,y.os,y.tape,y.output,a⟩
  .show k.a.heap[i]?=_;rw[y.a6 i (.inl d)];exact bI i (w.own i d).1
  .show k.E i s=_;rw[y.bG i N (λL g=>?_)];grind
  .simp only[gl,gY]at g;rcases g with g|rfl
   .rcases y.bW L g i d with aw|⟨bV,aw,dq⟩
    .grind
    grind
   grind
  have bp:=(cO.1 aG).1;have bo:=(cO.1 g).1;obtain⟨ec,ag,k1,aS,aT⟩:=y.box bS bY L N N;grind
 have ba:bZ D ((ao t).set (c l) .M++[.bo]) {k with t:=k.t++[⟨.int .i64 bb,[bb]⟩],own:=e.own} F {u with defers:={target:=.collected bb,args:=#[]}::u.defers}:=by
  have o:=ah.mono a0 w.len;obtain⟨bw,R⟩:=ah.defers;refine⟨o.size,⟨c ((ao t).set (c l) .M)::bw,⟨⟨N,⟨.int .i64 bb,[bb]⟩,bb,?_,a,a⟩,λav=>?_,R.mono a0.ext⟩⟩,o.aK⟩
  .show (k.t++_)[_]?=_;rw[<-K.len,hr (bE _)];simp
  have aw:=R.e7 _ av;grind
 obtain⟨ak,A,bq⟩:=h t;have bD:=bl ak F _ _ _ bq ba bF (X.aY.trans a0);revert A;show y6 (fX t).pending=f ak->cc q bK (G (i.N _ (((fX t).pending.map Item.code).toList++z)) ai) _;intro A;cases aN:(fX t).pending with
 |none=>rw[aN]at A;cases A;exact bD
 |some r=>
  rw[aN]at A;cases r<;>simp[y6,reduceCtorEq,eW]at A
  .subst A;exact bD [] bm
  subst A;exact bD z
def bZ.callee{o}{h}(d:look F o=aw (.fn (.func h) [] cap)):∀g a,bZ D l g F a->bd l g->∃e:n Z,a.eval (.tmp o)=.func (.func h) #[] e.toArray/\b6 l g e (e4 cap):=by
 intro g a k _;have b:=k.aK o;rw[d]at b;have b:=b8 b;show ∃e:n Z,a.tmps.getD o K=.func (.func h) #[] e.toArray/\_;generalize a.tmps.getD o K=y at b;cases b with
 |fn s j d i q r t u w x=>
  grind[qo]
def bk.e6{h}{fn}{args}{ao:ι->n an}(u:P.funcs[h]?=f fn)(s:(fn.name== "runtime.NumGoroutine")=v)(k:fn.body=f r)(C:ay args.length fn.ntmps=m)(D:kF args l->dc q fn.ntmps r (λB w g=>∃t,bX fn l.length (res t) (ao t) B w g) (h3 0 args) l):bk q h args l res ao:=by refine⟨⟨fn,u,s,by grind⟩,λe A b a=>?_⟩;exact(bk.hK u s k (fe C) λI y h E z F i x o d j=>D ⟨e,A,b,a⟩ I y h E z F i x o d j).2 e A b a
def R'(fn:Func)(e:y)(a:n an):fv:=λi j g=>
 (i=.ret∨i=.normal)/\g=a/\jU a=m/\∃b h d,oU j fn.results.toList=f b/\py b=f h/\kq h e=f d/\U d
def bk.bR{i}{fn}{args}{ao:ι->n an}(X:P.funcs[i]?=f fn)(au:(fn.name== "runtime.NumGoroutine")=v)(I:fn.body=f r)(V:ay args.length fn.ntmps=m)(aq:b2 q fn.ntmps r (λaj ae g=>∃W,R' fn (res W) (ao W) aj ae g) (h3 0 args) l):bk q i args l res ao:=by
 refine⟨⟨fn,X,au,by grind⟩,λaz A M J U h F=>?_⟩;obtain⟨ar,Q⟩:=b6.get M;let s:aL:={fn:=i,tmps:=#[],todo:=[],defers:=[],mode:=.run,kind:=.normal,roundOf:=p}
 have ah:Frame.enter P i A.toArray .normal=s.N {tmps:=A.toArray++Array.replicate (fn.ntmps-A.toArray.size) K,defers:=[]} [.code r]:=by simp[Frame.enter,Frame.N,X,I,s]
 rw[ah];have V:=fe V;refine aq az {tmps:=A.toArray++Array.replicate (fn.ntmps-A.toArray.size) K,defers:=[]} ⟨by grind,⟨[],C⟩,λo=>?_⟩ J s [] h U E ?_
 .rw[yM];simp[g0,dH,sE];have:=Q o;rcases d6 o (c A) with aH|aG
  .exact OH
  rw[w' x];trivial
 rintro aj ag g S e ⟨O,R,rfl,aw,t,ai,ax,B,D,ad,aa⟩ ab k T;have fin:∀b d,cU S d->b.fn=i->b.tmps=e.tmps->b.defers=e.defers->b.mode=.returning->b.kind=.normal->cc q U (G b h) d:=by
  intro b d a u w ak y z;have Y:=ab.rely a k;obtain⟨aC,aE,H,aD⟩:=Mh (P:=P) Y B D;obtain⟨j,N⟩:=Y.defers;have aF:e.defers=[]:=by
   cases j with
   |nil=>cases aA:e.defers with
    |nil=>rfl
    |cons ai t=>rw[aA]at N;exact N.elim
   |cons av j=>exact absurd rfl (vH aw _ (ca (N.e7 av E)))
  refine F O b aC _ ⟨u,y,by grind,z,fn,by grind,λZ _=>?_⟩ (pz ad aa H) (k.rely a) (T.trans a.aY);rw[w];exact⟨aE Z,λaj R=>by rw[aD Z #[]]at R;grind⟩
 rcases R with rfl|rfl
 .intro pre;exact .ctl k rfl (λ_=>Et rfl) λd a=>fin _ d a rfl rfl (h2 _) rfl rfl
 exact .ctl k rfl (λ_=>Er rfl) λd a=>fin _ d a rfl rfl (h2 _) rfl rfl
end
structure uB{P:aI}(q:ag P)(D:Nat)(aH:Array ap)(F:bI)(l:n an)(k:Nat->y)(r:Nat->bI)(idx:Nat->Option Nat)(last:Nat):Prop where
 cO:∀e s,aH[e]?=f s->∀aj∈s.after,eQ aj=m->aj.on<e
 eS:∀e s I,aH[e]?=f s->s.dst=f I->idx I=f e/\I<D
 dT:∀I e,idx I=f e->∃s,aH[e]?=f s/\s.dst=f I
 R:∀e s,aH[e]?=f s->e≠last->aJ q D aH.toList s (r e) l (k e) l
 eR:∀e s,aH[e]?=f s->e≠last->∀o l b aa,bx l b aa (match idx o with|some u=>(if ∃aj∈s.after,eQ aj=m/\aj.on=u then k u else .any)|none=>look F o)->bx l b aa (look (r e) o)
 hs:∀s,aH[last]?=f s->∀u,u<aH.size->u≠last->∃aj∈s.after,eQ aj=m/\aj.on=u
 ej:last<aH.size
section
variable {q:ag P}{k:Nat->y}{r:Nat->bI}{idx:Nat->Option Nat}{last:Nat}
theorem KA{a o}(i:∀b,b<aH.size->L.getD b m=m):Region.linearise.go .any aH a o L []=[]:=by
 cases a with
 |zero=>exact DA o L
 |succ j=>
  have d:aR .any aH L=[]:=by
   cases d:aR .any aH L with
   |nil=>rfl
   |cons e g=>
    have h:e∈aR .any aH L:=N;grind[pA]
  grind[vB]
def uB.eT(t:uB q D aH F l k r idx last){W:ak->a5->Prop}{z:aL}{I}(B:z.kind≠.early){cG}(aa:∀d i,i.tmps.size=D->(∀b,bx l d (i.tmps.getD b K) (match idx b with|some n=>if n=last then .any else k n|none=>look F b))->i.defers=[]->bd l d->dd l cG l d->cc q W (G (z.N i (.inRegion aH [last]::I)) ai) d):
  ∀E L,L.size=aH.size->c (L.toList.filter (λz=>!z))<=E->¬L.getD last v=m ->
   (∀e y,aH[e]?=f y->L.getD e v=m->∀g∈y.after,eQ g=m->L.getD g.on v=m) ->
   ∀d i,mh D l d (gz F k idx L) i->i.defers=[]->bd l d->dd l cG l d ->
   ∀b,cc q W (G (z.N i (.inRegion aH (Region.linearise.go .any aH E b L [])::I)) ai) d:=by
 intro E;induction E with
 |zero=>
  intro L ah ab an aE d i u S w M b;exfalso;have T:L[last]'(by have:=t.ej;omega)∈L.toList:=by simp
  have az:=t.ej;cases B:L[last]'x with
  |true=>exact an (by simp[hp,iF (by omega:last<L.size),B])
  |false=>
   have:L[last]'x∈L.toList.filter (λz=>!z):=kJ.2 ⟨T,by grind⟩;grind
 |succ E aj=>
  intro L ah ab an aE d i u S w M b;rw[vB];cases aw:(aR .any aH L)[b % c (aR .any aH L)]? with
  |none=>
   exfalso;have ag:aR .any aH L=[]:=by
    cases ag:aR .any aH L with
    |nil=>rfl
    |cons aN aM=>
     grind[Nat.mod_lt]
   have ax:∀e,e<aH.size->L.getD e v=m:=by
    intro e;induction e using Nat.strongRecOn with
    |_ e au=>
     intro C;cases B:L.getD e v with
     |true=>rfl
     |false=>
      have T:e∈aR .any aH L:=pA.2 ⟨aH[e],iF C,by
       grind,λg X V=>by
       have:=t.cO e _ (iF C) g X V
       grind⟩
      grind
   exact an (ax last t.ej)
  |some e=>
   have C:=ca aw;obtain⟨y,o,ar,ae⟩:=pA.1 C;have az:e<aH.size:=(je.1 o).1;have H:¬L.getD e v=m:=N;by_cases ao:e=last
   .subst ao;have Q:Region.linearise.go .any aH E (b / c (aR .any aH L)) (L.setIfInBounds e m) []=[]:=by
     refine KA λn ad=>?_;have aq:(L.setIfInBounds e m).getD n v=m:=by
      rw[mG x];by_cases g:n=e
      .grind
      obtain⟨Z,X,V,rfl⟩:=t.hs y o n ad g;grind
     grind
    simp[Q];refine aa d i u.size (λb=>?_) S w M;have:=u.aK b;unfold gz at this;cases h:idx b with
    |none=>grind
    |some n=>
     simp only[h]at this⊢;obtain⟨vJ,bz,_⟩:=t.dT _ _ h;by_cases g:n=e
     .rw[br g];trivial
     rw[bl g];obtain⟨Z,X,V,rfl⟩:=t.hs y o n (je.1 bz).1 g;grind
   have aI:(L.setIfInBounds e m).size=aH.size:=N;have aG:c ((L.setIfInBounds e m).toList.filter (λz=>!z))<=E:=by have A:L.toList[e]?=f v:=Rr;grind[xW]
   have av:∀n U,aH[n]?=f U->(L.setIfInBounds e m).getD n v=m->∀g∈U.after,eQ g=m->(L.setIfInBounds e m).getD g.on v=m:=wO;have aJ:¬(L.setIfInBounds e m).getD last v=m:=wO
   have aC:bZ D l d (r e) i:=u.fo λb l d R O=>t.eR e y o ao b l d R (by
    unfold gz at O;cases h:idx b with
    |none=>grind
    |some n=>
     simp only[h]at O⊢;split
     .grind
     .trivial)
   have aK:∀s R,dd l d l s->bx l s R (k e)->mh D l s (gz F k idx (L.setIfInBounds e m)) (i.put y.dst R):=by
    intro s R J O;cases S:y.dst with
    |none=>
     refine⟨u.size,u.defers.imp λ_ A=>A.mono J.ext,λb=>?_⟩;have j:=(u.aK b).mono J.ext w.len;simp only[Act.put];unfold gz at j⊢;cases h:idx b with
     |none=>grind
     |some n=>
      exact Pj
    |some Y=>
     obtain⟨aF,aA⟩:=t.eS e y Y o S;refine⟨by simp[Act.put,u.size],u.defers.imp λ_ A=>A.mono J.ext,λb=>?_⟩;simp only[Act.put];by_cases g:Y=b
     .subst g;have aP:Y<i.tmps.size:=by rw[u.size];exact aA
      simp only[hp,uK aP,ir];unfold gz;simp only[aF];rw[br ((mG x).2 (.inl a))];exact O
     have j:=(u.aK b).mono J.ext w.len;simp only[hp]at j⊢;rw[sM g];unfold gz at j⊢;cases h:idx b with
     |none=>grind
     |some n=>
      exact Pj
   have:=t.R e y o ao d i aC w z I ai W e (Region.linearise.go .any aH E (b / c (aR .any aH L)) (L.setIfInBounds e m) []) B N;simp only[xg]at this;exact this λR s O aD J=>aj _ aI aG aJ av s _ (aK _ _ J O) (by cases y.dst<;>exact S) aD (M.trans J) _
theorem uB.region(B:uB q D aH F l k r idx last)(M:P.follows Departure.mixedOrders=m){A:ak->a5->Prop}{t:aL}{i}(u:t.kind≠.early){cG}{w5}{id}(b3:bZ D l cG F w5)(J:w5.defers=[])(y:bd l cG)(N:∀o j,j.tmps.size=D->(∀d,bx l o (j.tmps.getD d K) (match idx d with|some w=>if w=last then .any else k w|none=>look F d))->j.defers=[]->bd l o->dd l cG l o->cc q A (G (t.N j (.inRegion aH [last]::i)) ai) o):
  cc q A (G (t.N w5 (.code (.region id aH m)::i)) ai) cG:=by
 refine .next a λb h=>?_;have h:=q.bO h;have g:=y.rely h;have C:=b3.rely h y;have x:cN l b l {b with a:={b.a with drawn:=b.a.drawn+1}}:=cN.same rfl rfl rfl rfl;have z:bd l {b with a:={b.a with drawn:=b.a.drawn+1}}:=g.same rfl;have I:=h.aY.trans (x.too' g);refine⟨_,{b with a:={b.a with drawn:=b.a.drawn+1}},#[],Es,⟨⟨l,l,g,z,x⟩,.nil⟩,?_⟩;simp[Region.schedule,M,Bool.true_or,dH];refine B.eT u (cG:=cG) N aH.size _ E E wF FA _ w5 ?_ J z I _;have n:=C.mono (x.too' g) g.len;refine⟨n.size,n.defers,λd=>?_⟩;unfold gz;cases O:idx d with
 |none=>exact n.aK d
 |some w=>
  simp only;rw[bl]
  .exact n.aK d
  exact wF
end
def dx(q:ag P)(x:Nat)(a:n ap)(t:ap)(w:bI)(j:n an)(z:ι->y)(e:ι->n an):Prop:=
 ∀i k,bZ x j i w k->bd j i->∀(l:aL) s g (o:ak->a5->Prop) r b,l.kind≠.early->a.toArray[r]?=f t ->
  (∀h u d,bx (e h) d u (z h)->bd (e h) d->dd j i (e h) d->cc q o (G (l.N (k.put t.dst u) (.inRegion a.toArray b::s)) g) d)->cc q o (G (l.N k (.inRegion a.toArray (r::b)::s)) g) i
def pW:n ap->Nat->(Nat->y)->n (Option Nat×y)
 |[],_,_=>[]
 |d::e,a,b=>(d.dst,b a)::pW e (a+1) b
def E8{g:Nat->y}:∀{e:n ap}{b a:Nat},(pW e b g)[a]?=(e[a]?).map λd=>(d.dst,g (b+a))
 |[],b,a=>by simp[pW]
 |d::h,b,0=>by simp[pW]
 |d::h,b,a+1=>by simp[pW,oa];rw[E8,show b+1+a=b+(a+1) by omega]
def dA(a:n ap)(b:bI)(g:Nat->y)(d:Nat):bI:=fQ (λe=>ei e (c8 (a.getD d ev).after.toList)) 0 (pW a 0 g) (mS a b)
def nt(a:n ap)(b:bI)(d:Nat->y):bI:=fQ (λ_=>m) 0 (pW a 0 d) (mS a b)
def ou(a:Nat):n ap->Bool
 |[]=>m
 |b::d=>match fg a b.dst with|true=>ou a d|false=>v
def IE{D}:∀{e:n ap},ou D e=m->∀(a:Nat)b,e[a]?=f b->fg D b.dst=m
 |[],_,a,b,d=>by grind
 |i::j,d,a,b,g=>by
  simp[ou]at d;split at d
  .rename_i h;cases a with
   |zero=>grind
   |succ a=>exact IE d a b N
  grind
def od:n ap->Nat->Bool
 |[],_=>m
 |b::d,a=>match ts a (c8 b.after.toList)with|true=>od d (a+1)|false=>v
def GN:∀{i:n ap}{h:Nat},od i h=m->∀(a:Nat)d,i[a]?=f d->∀g∈c8 d.after.toList,g<h+a
 |[],_,_,a,d,e=>by grind
 |l::o,h,e,a,d,b=>by
  simp[od]at e;split at e
  .rename_i j;cases a with
   |zero=>simp at b;subst b;exact DD j
   |succ a=>intro g k;have:=GN e a d N g k;omega
  grind
def xl(pre:Nat->Bool):n Nat->Bool
 |[]=>v
 |a::b=>match pre a with|true=>xl pre b|false=>m
theorem GD{pre:Nat->Bool}:∀{d:n Nat},xl pre d=m->∃b∈d,pre b=v
 |[],a=>by cases a
 |b::g,a=>by
  simp[xl]at a;split at a
  .obtain⟨r,e,i⟩:=GD a;grind
  grind
def ol(pre:Nat->Bool)(b:Nat):n ap->Nat->Bool
 |[],_=>m
 |e::d,a=>match pre a with
  |true=>ol pre b d (a+1)
  |false=>match af a b with
   |true=>ol pre b d (a+1)
   |false=>match xl pre (c8 e.after.toList)with|true=>ol pre b d (a+1)|false=>v
theorem H0{pre:Nat->Bool}{z}:∀{h:n ap}{d:Nat},ol pre z h d=m->∀(a:Nat)e,h[a]?=f e->pre (d+a)=v->d+a≠z->∃l∈c8 e.after.toList,pre l=v
 |[],_,_,a,e,g=>by grind
 |q::o,d,g,a,e,b=>by
  intro i j;simp[ol]at g;cases a with
  |zero=>
   simp at b;subst b;simp[kf]at i j;grind[Nat.eq_of_beq_eq_true,GD]
  |succ a=>
   have k:ol pre z o (d+1)=m:=N;exact H0 k a e N N x
section
variable {q:ag P}{idx:Nat->Option Nat}
def YV{h:Nat->y}{j}(q:∀a l b g,bx l b g (match idx a with|some i=>(if ∃d∈s.after,eQ d=m/\d.on=i then h i else .any)|none=>look F a)->bx l b g (look (dA aH.toList F h e) a))(o:mh D l b (gz F h idx L) j)(r:∀d∈s.after,eQ d=m->L.getD d.on v=m):bZ D l b (dA aH.toList F h e) j:=o.fo λa l b g k=>q a l b g (by
 unfold gz at k;cases n:idx a with
 |none=>grind
 |some i=>
  simp only[n]at k⊢;split
  .grind
  .trivial)
def ae8{r o:Nat->y}{d}{n}(t:∀g,s.dst=f g->idx g=f e/\g<D)(N:∀g k,idx g=f k->∃s,aH[k]?=f s/\s.dst=f g)(A:aH[e]?=f s)(M:e<L.size)(O:∀k,L.getD k v=m->o k=r k)(w:c b.t=c l)(i:dd l b d az)(j:mh D l b (gz F r idx L) n)(J:bx d az aa (o e)):mh D d az (gz F o idx (L.setIfInBounds e m)) (n.put s.dst aa):=by
 have old:∀h,idx h≠f e->bx d az (n.tmps.getD h K) (gz F o idx (L.setIfInBounds e m) h):=by intro h Q;have x:=(j.aK h).mono i.ext w;unfold gz at x⊢;grind[mG]
 cases I:s.dst with
 |none=>
  refine⟨j.size,j.defers.imp λ_ q=>q.mono i.ext,λh=>?_⟩;refine old h λz=>?_;grind
 |some g=>
  obtain⟨B,E⟩:=t g I;refine⟨by simp[Act.put,j.size],j.defers.imp λ_ q=>q.mono i.ext,λh=>?_⟩;simp[Act.put];by_cases u:g=h
  .subst u;have C:g<n.tmps.size:=by rw[j.size];exact E
   simp[hp,uK C,ir];unfold gz;simp only[B];rw[br ((mG M).2 (.inl a))];exact J
  have:=old h (λz=>by grind);simp[hp]at this⊢;grind
def Sr{SJ:∀a e,aH[a]?=f e->∀b∈e.after,eQ b=m->b.on<a}(n:L.size=aH.size)(k:aR .any aH L=[]):∀a,a<aH.size->L.getD a v=m:=by
 intro a;induction a using Nat.strongRecOn with
 |_ a g=>
  intro d;cases l:L.getD a v with
  |true=>rfl
  |false=>
   have i:a∈aR .any aH L:=pA.2 ⟨aH[a],iF d,by grind,λb j h=>by grind⟩;grind
def abp{o}(a:(aR .any aH L)[o % c (aR .any aH L)]?=p):aR .any aH L=[]:=by
 cases d:aR .any aH L with
 |nil=>rfl
 |cons e b=>
  grind[Nat.mod_lt]
theorem St(h:L.size=aH.size)(i:c (L.toList.filter (λb=>!b))<=0):∀a,a<aH.size->L.getD a v=m:=by
 intro a g;have d:L[a]'x∈L.toList:=E;cases e:L[a]'x with
 |true=>simp[hp,iF (by omega:a<L.size),e]
 |false=>
  have:L[a]'x∈L.toList.filter (λb=>!b):=kJ.2 ⟨d,by grind⟩;grind
end
def dk(b:Nat)(y:Nat->Bool):Nat->Bool:=λa=>match af a b with|true=>m|false=>y a
section
variable {q:ag P}{B:Type}{k:B->Nat->y}{idx:Nat->Option Nat}{bq:B->(Nat->Bool)->n an}{fd:B->(Nat->Bool)->Prop}{r:Nat}
def km(L:Array Bool):Nat->Bool:=λa=>L.getD a v
def Ty(a:e<L.size):km (L.setIfInBounds e m)=dk e (km L):=by funext u;have b:=mG (L:=L) (e:=e) (u:=u) a;simp[km,dk];grind[Nat.eq_of_beq_eq_true,Nat.beq_refl]
def Tc{r}(i:L.size=j)(h:∀e,r<=e->¬L.getD e v=m):j-r<=c (L.toList.filter (λa=>!a)):=by
 have k:(L.toList.drop r).filter (λa=>!a)=L.toList.drop r:=by rw[sx];intro a g;obtain⟨d,b,rfl⟩:=hq g;have:=h (r+d) x;simp[sA,nd]at b;simp[hp,iF (by omega:r+d<L.size),ir]at this;grind
 grind[List.drop_sublist]
theorem n4.iI(all)(r):n4 all (List.range' r (c all-r)) (all.drop r):=by
 have key:∀a j,(∀u s,a[u]?=f s->all[j+u]?=f s)->n4 all (List.range' j (c a)) a:=by
  intro a;induction a with
  |nil=>intro j _;trivial
  |cons s b w=>
   exact QC
 have:=key (all.drop r) r λu s t=>by grind
 grind
structure uy{P:aI}(q:ag P)(D:Nat)(aH:Array ap)(F:bI){B:Type}(k:B->Nat->y)(bq:B->(Nat->Bool)->n an)(fd:B->(Nat->Bool)->Prop)(idx:Nat->Option Nat)(r:Nat):Prop where
 cO:∀e s,aH[e]?=f s->∀aj∈s.after,eQ aj=m->aj.on<e
 eS:∀e s I,aH[e]?=f s->s.dst=f I->idx I=f e/\I<D
 dT:∀I e,idx I=f e->∃s,aH[e]?=f s/\s.dst=f I
 R:∀κ (y:Nat->Bool) e s,fd κ y->aH[e]?=f s->e<r->y e=v->(∀aj∈s.after,eQ aj=m->y aj.on=m)->(∀u K6,aH[u]?=f K6->y u=m->∀aj∈K6.after,eQ aj=m->y aj.on=m)->dx q D aH.toList s (dA aH.toList F (k κ) e) (bq κ y) (λbc:{RX:B // (∀u,y u=m->k RX u=k κ u)/\fd RX (dk e y)}=>k bc.1 e) (λbc=>bq bc.1 (dk e y))
 eR:∀(k:Nat->y) e s,aH[e]?=f s->∀o l b aa,bx l b aa (match idx o with|some u=>(if ∃aj∈s.after,eQ aj=m/\aj.on=u then k u else .any)|none=>look F o)->bx l b aa (look (dA aH.toList F k e) o)
 fin:∀(k:Nat->y) o l b aa,bx l b aa (match idx o with|some u=>k u|none=>look F o)->bx l b aa (look (nt aH.toList F k) o)
 gX:∀e s,aH[e]?=f s->r<=e->∀L:Array Bool,(∀e s,aH[e]?=f s->L.getD e v=m->∀aj∈s.after,eQ aj=m->L.getD aj.on v=m)->(∀aj∈s.after,eQ aj=m->L.getD aj.on v=m)->∀h,h<e->L.getD h v=m
 gd:r<=aH.size
 h_:∀κ (y:Nat->Bool),fd κ y->(∀e,e<r->y e=m)->∀e,r<=e->e<aH.size->k κ e=.any
def JW(b:L.size=j)(a:e<j):L.getD e m=v↔¬L.getD e v=m:=N
theorem uy.seq(t:uy q D aH F k bq fd idx r):∀l a(L:Array Bool)z,L.size=aH.size->r<=a->a<=aH.size->aH.size-a<=l->(∀o,o<aH.size->(L.getD o v=m↔o<a)) ->
  Region.linearise.go .any aH l z L []=List.range' a (aH.size-a):=by
 intro l;induction l with
 |zero=>
  grind[DA]
 |succ l V=>
  intro a L z C W X Y B;by_cases Q:a=aH.size
  .grind [KA]
  .rw[vB];have w:a<aH.size:=x;have S:∀b j,aH[b]?=f j->L.getD b v=m->∀i∈j.after,eQ i=m->L.getD i.on v=m:=λb j d h i y g=>by have n:=(je.1 d).1;have e:=(B b n).1 h;have E:=t.cO b j d i y g;grind
   have T:∀b,b∈aR .any aH L->b=a:=λb h=>by
    obtain⟨j,d,u,U⟩:=pA.1 h;have n:=(je.1 d).1;have K:¬b<a:=λO=>(JW C n).1 u ((B b n).2 O);rcases d6 a b with e|e
    .have:=t.gX b j d x L S U a e;grind
    omega
   have R:a∈aR .any aH L:=pA.2 ⟨aH[a],iF w,(JW C w).2 (λI=>by grind),λi y g=>by
    have:=t.cO a _ (iF w) i y g
    grind⟩
   have M:0<c (aR .any aH L):=List.length_pos_of_mem R;have A:=qc z M;rw[bG A];have s:=T _ (xc A);simp[s];rw[V (a+1) _ _ N x x x (λo J=>by grind[mG])];rw[show aH.size-a=(aH.size-(a+1))+1 by omega,List.range'_succ]
def uy.eT(n:uy q D aH F k bq fd idx r){aP:ak->a5->Prop}{u:aL}{z}(Y:u.kind≠.early){dQ}{cG}(X:∀b y d h,fd b y->(∀e,e<r->y e=m)->bZ D (bq b y) d (nt aH.toList F (k b)) h->bd (bq b y) d->dd dQ cG (bq b y) d->cc q aP (G (u.N h (.inRegion aH (List.range' r (aH.size-r))::z)) ai) d):
  ∀t b L,fd b (km L)->L.size=aH.size->c (L.toList.filter (λu=>!u))<=t->(∀o,r<=o->¬L.getD o v=m) ->
   (∀e A,aH[e]?=f A->L.getD e v=m->∀I∈A.after,eQ I=m->L.getD I.on v=m) ->
   ∀d h,mh D (bq b (km L)) d (gz F (k b) idx L) h->bd (bq b (km L)) d->dd dQ cG (bq b (km L)) d ->
   ∀l,cc q aP (G (u.N h (.inRegion aH (Region.linearise.go .any aH t l L [])::z)) ai) d:=by
 have fin:∀b L d h t l,fd b (km L)->L.size=aH.size->c (L.toList.filter (λu=>!u))<=t->(∀o,r<=o->¬L.getD o v=m)->(∀e,e<r->L.getD e v=m)->mh D (bq b (km L)) d (gz F (k b) idx L) h->bd (bq b (km L)) d->dd dQ cG (bq b (km L)) d->cc q aP (G (u.N h (.inRegion aH (Region.linearise.go .any aH t l L [])::z)) ai) d:=by
  intro b L d h t l B O R M ah E i s;have W:=n.gd;rw[n.seq t r L l O (bE _) W (by have aD:=Tc (j:=aH.size) (r:=r) O M;omega) (λo J=>⟨λaj=>by grind,λaj=>ah o aj⟩)]
  exact X b _ d h B ah (E.fo λl ax d ar H=>n.fin (k b) l ax d ar (by
   unfold gz at H;cases w:idx l with
   |none=>grind
   |some o=>
    simp only[w]at H⊢;obtain⟨A,g,_⟩:=n.dT _ _ w;rcases d6 o r with C|C
    .grind
    .rw[n.h_ b _ B ah o C (je.1 g).1];trivial)) i s
 intro t;induction t with
 |zero=>
  intro b L B O R M V d h E i s l;have W:=n.gd;grind[St]
 |succ t ab=>
  intro b L B O R M V d h E i s l;have W:=n.gd;cases ad:(aR .any aH L)[l % c (aR .any aH L)]? with
  |none=>exact fin b L d h _ l B O R M (λe w=>Sr (SJ:=n.cO) O (abp ad) e x) E i s
  |some e=>
   have w:=ca ad;obtain⟨A,g,ao,ag⟩:=pA.1 w;have aq:e<aH.size:=(je.1 g).1;rcases d6 e r with Q|Q
   rotate_left
   .exact fin b L d h _ l B O R M (λo J=>n.gX e A g Q L V ag o x) E i s
   rw[vB,ad];have av:¬L.getD e v=m:=N;have aF:c ((L.setIfInBounds e m).toList.filter (λu=>!u))<=t:=by
    have C:L.toList[e]?=f v:=by rw[Gp,iF (by omega:e<L.size)];simpa[hp,iF (by omega:e<L.size)]using av
    grind[xW]
   have au:∀S K,aH[S]?=f K->(L.setIfInBounds e m).getD S v=m->∀I∈K.after,eQ I=m->(L.setIfInBounds e m).getD I.on v=m:=wO;have a:bZ D (bq b (km L)) d (dA aH.toList F (k b) e) h:=YV (n.eR (k b) e A g) E ag;have:=n.R b (km L) e A B g Q (by unfold km;grind) ag V d h a i u z ai aP e (Region.linearise.go .any aH t (l / c (aR .any aH L)) (L.setIfInBounds e m) []) Y N;simp only[xg]at this;refine this λaE ar ae H U T=>?_;obtain⟨aA,az,an⟩:=aE;have aw:=Ty (L:=L) (e:=e) x;simp only at H U T;rw[<-aw]at H U T an;exact ab aA _ an N aF (λo J=>by grind[mG]) au ae _ (ae8 (λaC Z=>n.eS e A aC g Z) n.dT g x (λS aa=>az S aa) i.len T E H) U (s.trans T) _
def b2.reg(aF:P.follows Departure.mixedOrders=m)(x:Nat)(t:B->Nat->y)(M:B->(Nat->Bool)->n an)(g:B->(Nat->Bool)->Prop)(ar:B)(aU:g ar λ_=>v)(aD:M ar (λ_=>v)=l)(ao:kU all=m)(a5:od all 0=m)(a6:ou D all=m)(a9:x<=c all)(R:∀e,x<=e->e<c all->∀L:Nat->Prop,(∀e,e<c all->L e->∀i∈c8 (all.getD e ev).after.toList,L i)->(∀i∈c8 (all.getD e ev).after.toList,L i)->∀K,K<e->L K)(C:∀j (y:Nat->Bool),g j y->(∀e,e<x->y e=m)->∀e,x<=e->e<c all->t j e=.any)(ag:∀j (y:Nat->Bool) e s,g j y->all[e]?=f s->e<x->y e=v->(∀i∈c8 s.after.toList,y i=m)->(∀h ae,all[h]?=f ae->y h=m->∀i∈c8 ae.after.toList,y i=m)->dx q D all s (dA all F (t j) e) (M j y) (λaL:{aQ:B // (∀h,y h=m->t aQ h=t j h)/\g aQ (dk e y)}=>t aL.1 e) (λaL=>M aL.1 (dk e y))){aP:fv}(aE:∀j y,g j y->(∀e,e<x->y e=m)->fc q D all (all.drop x) (aP .normal) (nt all F (t j)) (M j y))(id:Nat):
  b2 q D (.region id all.toArray m) aP F l:=by
 have S:∀e:Nat,all.toArray[e]?=all[e]?:=λe=>by simp
 let idx:Nat->Option Nat:=λo=>(aB (c all)).find? (λe=>decide ((all.getD e ev).dst=f o));have ba:∀o h,idx o=f h->∃s,all[h]?=f s/\s.dst=f o:=N;have a1:∀e s I,all[e]?=f s->s.dst=f I->idx I=f e:=by
  intro e s I ck u;have bp:e<c all:=(cO.1 ck).1;cases aI:idx I with
  |none=>
   have:=List.find?_eq_none.1 aI e N;grind
  |some h=>
   grind[DQ]
 have bb:∀o,jS o all=m↔∃h,idx o=f h:=by grind[Dc,vq]
 have G:∀e s,all[e]?=f s->all.getD e ev=s:=λe s bc=>by grind
 have u:uy q D all.toArray F t M g idx x:=by
  refine⟨?_,?_,?_,?_,?_,?_,λe s ck V L aV aW K aG=>?_,by grind,λj y av aw e k r=>C j y av aw e k N⟩
  .intro e s ck i ad A;rw[S]at ck;have:=GN a5 e s ck i.on (l7.2 ⟨i,by grind,A,rfl⟩);omega
  .intro e s I ck u;rw[S]at ck;exact⟨a1 e s I ck u,lg (IE a6 e s ck) I u⟩
  .grind
  .intro j y e s av ck ab T aH aX;rw[S]at ck;exact ag j y e s av ck ab T (λi ad=>by grind[l7]) λh s J aT i ad=>by grind[l7]
  .intro t e s ck o l b aa ak;rw[S]at ck;show bx l b aa (look (dA all F t e) o);unfold dA;rw[G e s ck];rcases vD (z:=λh=>ei h (c8 s.after.toList)) (F:=mS all F) (o:=o) (d:=pW all 0 t) (e:=0)with⟨h,X,k,r,w⟩|w
   .rw[w];rw[E8]at k;cases J:all[h]? with
    |none=>grind
    |some aK=>
     simp[J,lJ,eW,lK,cV]at k;rw[a1 h aK o J k.1]at ak;simp only at ak;rw[br]at ak
     .grind
     simp[cV]at r;obtain⟨i,aR,aS,x⟩:=l7.1 (qO r);grind
   rw[w,tr];split
   .trivial
   grind
  .intro t o l b aa ak;show bx l b aa (look (nt all F t) o);unfold nt;rcases vD (z:=λ_=>m) (F:=mS all F) (o:=o) (d:=pW all 0 t) (e:=0)with⟨h,X,k,r,w⟩|w
   .rw[w];rw[E8]at k;grind
   rw[w,tr];split
   .trivial
   grind
  rw[S]at ck;refine R e V (cO.1 ck).1 (λK=>L.getD K v=m) (λa' aZ a_ i ad=>?_) (λi ad=>?_) K aG
  .grind [l7]
  grind[l7]
 intro b aR a7 Y aS aJ aA au A U;refine .next a λQ aj=>?_;have aj:=q.bO aj;have ai:=Y.rely aj;have H:=a7.rely aj Y;have O:cN l Q l {Q with a:={Q.a with drawn:=Q.a.drawn+1}}:=cN.same rfl rfl rfl rfl;have Z:bd l {Q with a:={Q.a with drawn:=Q.a.drawn+1}}:=ai.same rfl;have a2:=aj.aY.trans (O.too' ai);refine⟨_,{Q with a:={Q.a with drawn:=Q.a.drawn+1}},#[],Es,⟨⟨l,l,ai,Z,O⟩,.nil⟩,?_⟩;simp only[Region.schedule,aF,Bool.true_or,dH];have W:km (Array.replicate all.toArray.size v)=λ_=>v:=by funext e;simp[km,hp,xe];split<;>simp
 refine u.eT A (dQ:=l) (cG:=b) (λj y aN ax av aw aC r ah=>?_) all.toArray.size ar _ N E E ?_ ?_ _ aR ?_ N N _
 .refine aE j y av aw aN ax aC r aS aJ aA au _ A ?_ λa4 a3 aO az aM f3 w a8=>U .normal _ _ aO az aM f3 w (ah.trans a8);grind[n4.iI]
 .intro e _ bp;simp[hp,xe]at bp;split at bp<;>simp at bp
 .exact FA
 rw[W,aD];have aq:=H.mono (O.too' ai) ai.len;refine⟨aq.size,aq.defers,λo=>?_⟩;unfold gz;cases a0:idx o with
 |none=>exact aq.aK o
 |some h=>
  simp only;rw[bl]
  .exact aq.aK o
  exact wF
def dx.to{o:Type}{r:ι->y}{b:ι->n an}{t:o->y}{k:o->n an}(A:dx q D all s F l r b)(E:∀d,∃e,r d=t e/\b d=k e):dx q D all s F l t k:=by intro O w z i x e g u C a h j B;refine A O w z i x e g u C a h j λd S Q K M N=>?_;obtain⟨R,I,J⟩:=E d;grind
def aJ.tocF{d:Type}{X}{A:d->y}{z:d->n an}(J:aJ q D all s F l X ao)(o:d)(e:X=A o)(g:ao=z o):dx q D all s F l A z:=by subst e g;exactλM C I j E r b B K a i k h=>J M C I j E r b B K a i k λN x t u w=>h o N x t u w
end
section
variable {q:ag P}
theorem dx.a1{C:ι->y}{d:ι->n an}(Q:s.guard=p)(M:∀g h,bd l g->(∀E,bx l g (h E) (bF F E))->∃(e:ι)(b:a5)(j:Z),(ac h s).run P g.a=.ok (.value j) b.a/\bx (d e) b j (C e)/\bd (d e) b/\cN l g (d e) b/\du g ((ac h s).events P g.a #[])):dx q D all s F l C d:=by intro g I K i S U J R T z w x u;refine rB w x (iZ Q) λO o=>?_;have k:=i.rely o;obtain⟨e,b,j,r,t,B,A,N⟩:=M O I.eval k (eO (K.rely o i));exact⟨_,b,j,r,.inl a,⟨⟨l,d e,k,B,A⟩,N⟩,u e j b t B (o.aY.trans (A.too' k))⟩
def dx.di{k}(t:aJ q D all s F l k ao):dx q D all s F l (λ_:Unit=>k) (λ_=>ao):=
 λx n r g o w b j u a e h d=>t x n r g o w b j u a e h λy i=>d () y i
def aJ.aN{k}(b:a0 P s (bF F) l k ao)(a:s.guard=p):aJ q D all s F l k ao:=.a1 (λ_ _ _ _=>iZ a) b
def aJ.eval{k}(aV:bn P ad)(a:a9 q CT)(d:hB ad CT bg all F l s=f (k,p,cg))(b:U cg):aJ q D all s F l k l:=dS aV a d b
def aJ.x{k}(aV:bn P ad:=by exact ba)(iQ:a9 q CT:=by first|assumption|exact a9.nil)(t:hB ad CT [] all F l s=f (k,p,[]):=by rfl):aJ q D all s F l k l:=dS aV iQ t C
def re(i:ag P)(h:Nat)(a:n ap)(g:bI)(d:n an)(e:Nat->y)(pre:Nat->Bool):n ap->Nat->Prop
 |[],_=>True
 |j::k,b=>(match pre b with|true=>aJ i h a j (dA a g e b) d (e b) d|false=>True)/\re i h a g d e pre k (b+1)
def rf(i:ag P)(h:Nat)(a:n ap)(g:bI)(d:n an)(e:Nat->y)(j:Nat):n ap->Nat->Prop
 |[],_=>True
 |k::l,b=>(match af b j with|true=>True|false=>aJ i h a k (dA a g e b) d (e b) d)/\rf i h a g d e j l (b+1)
theorem re.get{h:Nat->y}{pre:Nat->Bool}:∀{i:n ap}{d:Nat},re q D all F l h pre i d->∀(b:Nat)e,i[b]?=f e->pre (d+b)=m->aJ q D all e (dA all F h (d+b)) l (h (d+b)) l
 |[],_,_,b,e,g=>by grind
 |k::o,d,g,0,e,a=>λw=>by simp at a;subst a;have j:=g.1;grind
 |k::o,d,g,b+1,e,a=>λw=>by have:=re.get g.2 b e N N;grind
theorem rf.get{h:Nat->y}{z}:∀{i:n ap}{d:Nat},rf q D all F l h z i d->∀(b:Nat)e,i[b]?=f e->d+b≠z->aJ q D all e (dA all F h (d+b)) l (h (d+b)) l
 |[],_,_,b,e,g=>by grind
 |k::o,d,g,0,e,a=>λw=>by simp at a;subst a;have j:=g.1;simp only[kf]at w;grind[Nat.eq_of_beq_eq_true]
 |k::o,d,g,b+1,e,a=>λw=>by have:=rf.get g.2 b e N x;grind
def kS(pre:Nat->Bool)(d:Nat->y)(e:ι->Nat->y)(b:ι)(a:Nat):y:=match pre a with|true=>d a|false=>e b a
def DO{r}{pre:Nat->Bool}{k:Nat->y}{j:ι->Nat->y}{t:ι->n an}{bq:ι->(Nat->Bool)->n an}(R:pre z=v)(T:ol pre z all 0=m)(same:∀d b,pre b=m->j d b=k b)(C:∀b g,all[b]?=f g->pre b=m->aJ q D all g (dA all F k b) l (k b) l)(q2:∀d (y:Nat->Bool) b g,all[b]?=f g->b≠z->b<r->y b=v->(∀e w,all[e]?=f w->y e=m->∀u∈c8 w.after.toList,y u=m)->aJ q D all g (dA all F (j d) b) (bq d y) (j d b) (bq d (dk b y)))(B:∀g,all[z]?=f g->dx q D all g (dA all F k z) l (λd=>j d z) t)(Q:∀d (y:Nat->Bool),(∀b,y b=m->pre b=m)->t d=bq d (dk z y)):
  ∀i (y:Nat->Bool) b g,(i.isSome=y z/\(i=p->∀b,y b=m->pre b=m))->all[b]?=f g->b<r->y b=v->(∀u∈c8 g.after.toList,y u=m)->(∀d w,all[d]?=f w->y d=m->∀u∈c8 w.after.toList,y u=m) ->
   dx q D all g (dA all F (i.elim k j) b) (i.elim l λd=>bq d y) (λK:{E:Option ι // (∀d,y d=m->E.elim k j d=i.elim k j d)/\(E.isSome=dk b y z/\(E=p->∀e,dk b y e=m->pre e=m))}=>K.1.elim k j b) (λK=>K.1.elim l λd=>bq d (dk b y)):=by
 intro i y b g N s A x J o;have U:∀{e},dk b y e=m->e=b∨y e=m:=λ{e} h=>by unfold dk at h;grind[Nat.eq_of_beq_eq_true]
 have S:∀{e},e≠b->dk b y e=y e:=λ{e} h=>by unfold dk;grind[Nat.eq_of_beq_eq_true]
 by_cases M:b=z
 .subst M;cases i with
  |some d=>grind
  |none=>
   refine(B g s).to λd=>⟨⟨f d,λe h=>same d e (N.2 a e h),?_,λI=>by cases I⟩,a,Q d y (N.2 a)⟩
   unfold dk;grind[Nat.beq_refl]
 cases i with
 |none=>
  have O:pre b=m:=by grind[H0]
  exact(C b g s O).tocF ⟨p,λ_ _=>rfl,by grind,λ_ e h=>by grind⟩ a a
 |some d=>exact(q2 d y b g s M A x o).tocF ⟨f d,λ_ _=>rfl,by grind,λI=>by cases I⟩ rfl rfl
def yX{r}{pre:Nat->Bool}{b:Option ι}{y:Nat->Bool}(h:b.isSome=y z/\(b=p->∀a,y a=m->pre a=m))(e:z<r)(g:∀a,a<r->y a=m):∃d,b=f d:=by
 cases b with
 |some d=>grind
 |none=>grind
def g.dg(O:P.follows Departure.mixedOrders=m)(z)(pre:Nat->Bool)(r:Nat->y)(u:ι->Nat->y)(d:ι->n an){id}(A:kU aH.toList=m)(B:od aH.toList 0=m)(C:ou D aH.toList=m)(o:Nat.blt z (c aH.toList)=m)(E:pre z=v)(I:ol pre z aH.toList 0=m)(s:re q D aH.toList F l r pre aH.toList 0)(q2:∀b,rf q D aH.toList F (d b) (kS pre r u b) z aH.toList 0)(afY:dx q D aH.toList (aH.toList.getD z ev) (dA aH.toList F r z) l (λb=>kS pre r u b z) d)(M:∀b,g q D be av .normal (nt aH.toList F (kS pre r u b)) (d b)):g q D be (.code (.region id aH m)::av) .normal F l:=by
 have o:=fe o;have:=b2.reg (q:=q) (D:=D) (F:=F) (l:=l) O (all:=aH.toList) (c aH.toList) (λh:Option ι=>h.elim r (kS pre r u)) (λh _=>h.elim l d) (λh y=>h.isSome=y z/\(h=p->∀e,y e=m->pre e=m)) p ⟨rfl,λ_ _ J=>by cases J⟩ a A B C (bE _)
  (λe i j=>absurd j (n'.2 i)) (λh y _ _ e i j=>absurd j (n'.2 i))
  (DO (bq:=λb _=>d b) E I (λb e w=>by simp only[kS,w]) (λe t k w=>by have:=s.get e t k N;grind) (λb y e t k x _ _ _=>by have:=(q2 b).get e t k N;grind)
   (λt K=>by grind) (λ_ _ _=>rfl))
  (aP:=g q D be av) (λh y Q R=>by obtain⟨b,rfl⟩:=yX Q o R;rw[sH];exact .nil (M b)) id
 exact ub
end
section
variable {q:ag P}
def wv(a:n ap)(b:Nat):n Nat->Bool
 |[]=>v
 |d::e=>match ei b (c8 (a.getD d ev).after.toList)with|true=>m|false=>wv a b e
def NF{all}{e}:∀{h:n Nat},wv all e h=m->∃b,b∈h/\ei e (c8 (all.getD b ev).after.toList)=m
 |[],a=>by cases a
 |b::k,a=>by
  simp only[wv]at a;cases g:ei e (c8 (all.getD b ev).after.toList)with
  |true=>exact⟨b,by simp,g⟩
  |false=>
   simp only[g]at a;obtain⟨j,i,d⟩:=NF a;exact⟨j,by simp[i],d⟩
def uN(a:n ap):Nat->n Nat->Bool
 |0,_=>m
 |d+1,b=>match ei d b with
  |true=>uN a d b
  |false=>match wv a d b with|true=>uN a d b|false=>v
def A2{all}:∀{d:Nat}{e:n Nat},uN all d e=m->∀a,a<d->ei a e=m∨∃g,ei g e=m/\ei a (c8 (all.getD g ev).after.toList)=m
 |0,_,_,a,k=>by omega
 |d+1,e,b,a,k=>by
  simp[uN]at b;cases i:ei d e with
  |true=>
   simp[i]at b;by_cases j:a=d
   .subst j;exact .inl i
   exact A2 b a x
  |false=>
   simp[i]at b;cases h:wv all d e with
   |false=>simp[h]at b
   |true=>
    simp[h]at b;by_cases j:a=d
    .subst j;obtain⟨g,k1,l⟩:=NF h;exact .inr ⟨g,vE k1,l⟩
    exact A2 b a x
def g.hG(G:P.follows Departure.mixedOrders=m)(z last)(pre:Nat->Bool)(r:Nat->y)(u:ι->Nat->y)(j h:ι->n an){id}(ab:kU aH.toList=m)(ad:od aH.toList 0=m)(ah:ou D aH.toList=m)(A:Nat.blt z (c aH.toList)=m)(ak:pre z=v)(ar:ol pre z aH.toList 0=m)(aa:af (last+1) (c aH.toList)=m)(V:uN aH.toList last (c8 (aH.toList.getD last ev).after.toList)=m)(ai:pre last=v)(au:af last z=v)(J:re q D aH.toList F l r pre aH.toList 0)(q2:∀a,rf q D aH.toList F (j a) (kS pre r u a) z aH.toList.dropLast 0)(t:dx q D aH.toList (aH.toList.getD z ev) (dA aH.toList F r z) l (λa=>kS pre r u a z) j)(I:∀a,aJ q D aH.toList (aH.toList.getD last ev) (dA aH.toList F (kS pre r u a) last) (j a) (u a last) (h a))(o:∀a,g q D be av .normal (nt aH.toList F (kS pre r u a)) (h a)):g q D be (.code (.region id aH m)::av) .normal F l:=by
 have ag:=di aa;have aw:last≠z:=by grind[Nat.beq_refl]
 have A:=fe A;have:=b2.reg (q:=q) (D:=D) (F:=F) (l:=l) G (all:=aH.toList) (c aH.toList) (λs:Option ι=>s.elim r (kS pre r u)) (λs y=>s.elim l λa=>match y last with|true=>h a|false=>j a) (λs y=>s.isSome=y z/\(s=p->∀e,y e=m->pre e=m)) p ⟨rfl,λ_ _ K=>by cases K⟩ rfl ab ad ah (bE _)
  (λe b i=>absurd i (n'.2 b)) (λs y _ _ e b i=>absurd i (n'.2 b))
  (DO (bq:=λa y=>match y last with|true=>h a|false=>j a) ak ar (λa e Q=>by simp[kS,Q]) (λe B k Q=>by have:=J.get e B k (by rwa [cV]);rwa [cV]at this)
   (λa y e B k Y X E w=>by
    by_cases ao:e=last
    .subst ao;have b:=I a;rw[show aH.toList.getD e ev=B by simp[al,k]]at b;simp[E,dk,sL];rw[show kS pre r u a e=u a e by simp[kS,ai]];exact b
    .have O:=(cO.1 k).1;have aj:aH.toList.dropLast[e]?=f B:=N;have b:=(q2 a).get e B aj (by rwa [cV]);rw[cV]at b;have M:af last e=v:=uj;have C:y last=v:=by
      cases C:y last with
      |false=>rfl
      |true=>
       have W:=bG (l:=aH.toList) (by omega:last<c aH.toList);have Z:∀o T,aH.toList[o]?=f T->aH.toList.getD o ev=T:=λo T K=>by simp[al,K]
       rw[Z _ _ W]at V;rcases A2 V e x with i|⟨o,i,U⟩
       .grind [qO]
       have ae:=w last _ W C o (qO i);cases aq:aH.toList[o]? with
       |none=>rw[show aH.toList.getD o ev=ev by simp[al,aq]]at U;simp[ev,c8,ei]at U
       |some ok=>
        grind[qO]
     simp[dk,M,C];exact b)
   (λB R=>by rw[show aH.toList.getD z ev=B by simp[al,R]]at t;exact t)
   (λa y S=>by
    have C:y last=v:=N
    simp[dk,au,C]))
  (aP:=g q D be av) (λs y H S=>by
   obtain⟨a,rfl⟩:=yX H A S;rw[sH];simp[Option.elim,S last x]
   exact .nil (o a)) id
 exact ub
end
def jj(a:bB):Z:=.string ⟨a.toArray⟩
def ST{a}{b}(d:a.data.toList=b):Value.string a=jj b:=by subst d;simp[jj]
theorem EG{a}(d:Rd bD aa (.T a)):aa=jj a/\dY aa=m:=by
 cases d with
 |T b _=>exact⟨ST b,rfl⟩
section
variable {q:ag P}{k:Nat->y}{bq:(Nat->Bool)->n an}
def nm:n ap->n (n Bool)->n (n Bool)
 |[],w=>w
 |s::bb,w=>d (lP w (c8 s.after.toList)) λr=>nm bb (w++[r])
 where d:n Bool->(n Bool->n (n Bool))->n (n Bool)
 |[],bc=>bc []
 |true::bb,bc=>d bb λbb=>bc (m::bb)
 |false::bb,bc=>d bb λbb=>bc (v::bb)
theorem yt:∀d(a:n Bool->n (n Bool)),nm.d d a=a d
 |[],a=>rfl
 |true::b,a=>by simp[nm.d];rw[yt b]
 |false::b,a=>by simp[nm.d];rw[yt b]
def HZ{a:n ap}{y:Nat->Bool}(q:∀(b:Nat)d,a[b]?=f d->y b=m->∀h∈c8 d.after.toList,y h=m):
  ∀k e,(∀j,k[j]?=a[c e+j]?)->(∀(b:Nat) g,e[b]?=f g->∀d,a[b]?=f d->(∀h∈c8 d.after.toList,y h=m)->∀i,gm g i=m->y i=m) ->
   ∀(b:Nat) (g:n Bool),(nm k e)[b]?=f g->∀d,a[b]?=f d->(∀h∈c8 d.after.toList,y h=m)->∀i,gm g i=m->y i=m
 |[],e,_,o=>o
 |d::k,e,l,o=>by
  simp[nm];rw[yt];refine HZ q k _ (λj=>?_) ?_
  .have:=l (j+1);grind
  intro b g r;have s:=l 0;simp[nc,kf]at s;rcases Nat.lt_trichotomy b (c e) with u|rfl|t
  .grind
  .rw[hr (bE _)]at r;grind[B3]
  grind
def en(a:n ap)(d e:Nat):Bool:=match(nm a [])[d]? with|some b=>gm b e|none=>v
def Bd{y:Nat->Bool}(j:∀(a:Nat)b,all[a]?=f b->y a=m->∀g∈c8 b.after.toList,y g=m):∀d b,all[d]?=f b->(∀g∈c8 b.after.toList,y g=m)->∀a,en all d a=m->y a=m:=by
 intro d b h i a e;unfold en at e;split at e
 .rename_i r k;exact HZ j all [] E E d r k b h i a e
 grind
def Gw{y:Nat->Bool}(k:∀(a:Nat)j,all[a]?=f j->y a=m->∀l∈c8 j.after.toList,y l=m)(o:y e=v):∀a,(a=e∨en all a e=m)->y a=v:=by
 intro a i;rcases i with rfl|i
 .exact o
 cases n:y a with
 |false=>rfl
 |true=>
  have b:∃d,all[a]?=f d:=by
   cases b:all[a]? with
   |some d=>grind
   |none=>
    exfalso;have q:c (nm all [])=c all:=by
     have:∀g h,c (nm g h)=c h+c g:=by
      intro g;induction g with
      |nil=>intro h;simp[nm]
      |cons j g r=>intro h;simp[nm];grind[yt]
     grind
    unfold en at i;grind
  obtain⟨d,b⟩:=b;have:=Bd k a d b (k a d b n) e i;grind
def b4(j:ag P)(i:Nat)(a:n ap)(h:bI)(g:Nat->y)(e:(Nat->Bool)->n an)(b:Nat)(k:ap):Prop:=
 ∀y:Nat->Bool,(∀d,en a b d=m->y d=m)->(∀d,(d=b∨en a d b=m)->y d=v)->aJ j i a k (dA a h g b) (e y) (g b) (e (dk b y))
def um{P}(g:ag P)(d:Nat)(a:n ap)(b:bI)(i:Nat->y)(e:(Nat->Bool)->n an):n ap->Nat->Prop
 |[],_=>True
 |j::k,h=>b4 g d a b i e h j/\um g d a b i e k (h+1)
theorem um.get{all}:∀{h:n ap}{g:Nat},um q D all F k bq h g->∀d b,h[d]?=f b->b4 q D all F k bq (g+d) b
 |[],_,_,d,b,e=>by grind
 |i::j,g,e,0,b,a=>by simp at a;subst a;exact e.1
 |i::j,g,e,d+1,b,a=>by have:=um.get e.2 d b N;grind
def g.cj{id}(A:P.follows Departure.mixedOrders=m)(k:Nat->y)(j:(Nat->Bool)->n an)(B:j (λ_=>v)=l)(t:kU aH.toList=m)(u:od aH.toList 0=m)(w:ou D aH.toList=m)(i:um q D aH.toList F k j aH.toList 0)(E:∀y,(∀e,e<c aH.toList->y e=m)->g q D be av .normal (nt aH.toList F k) (j y)):g q D be (.code (.region id aH m)::av) .normal F l:=by
 have:=b2.reg (q:=q) (D:=D) (F:=F) (l:=l) A (all:=aH.toList) (c aH.toList) (λ_:Unit=>k) (λ_=>j) (λ_ _=>True) () C B t u w (bE _)
  (λe b d=>absurd d (n'.2 b)) (λr y _ _ e b d=>absurd d (n'.2 b))
  (λr y e s _ h _ z x o=>by have b:=i.get e s h;rw[cV]at b;exact(b y (Bd o e s h x) (Gw o z)).tocF ⟨(),λ_ _=>rfl,C⟩ a a)
  (aP:=g q D be av) (λr y _ I=>by rw[sH];exact .nil (E y I)) id
 exact ub
end
section
variable {q:ag P}{k:Nat->y}{h:Bool->Bool->Bool->n an}{B i ae:Nat}
abbrev lm(e:Bool->Bool->Bool->n an)(d a b:Nat):(Nat->Bool)->n an:=λy=>e (y d) (y a) (y b)
def m0{y:Nat->Bool}(a:af u e=v):dk e y u=y u:=by simp only[dk,a]
def zN{y:Nat->Bool}:dk e y e=m:=Ad
def b4.bN(a:af B e=v)(b:af i e=v)(l:af ae e=v)(n:∀d g j,aJ q D all s (dA all F k e) (h d g j) (k e) (h d g j)):b4 q D all F k (lm h B i ae) e s:=by intro y _ _;show aJ q D all s _ (h (y B) (y i) (y ae)) _ (h (dk e y B) (dk e y i) (dk e y ae));rw[m0 a,m0 b,m0 l];exact n _ _ _
def b4.du(aV:bn P ad:=by exact ba)(iQ:a9 q CT:=by first|assumption|exact a9.nil)(t:∀w r I,hB ad CT [] all (dA all F k e) (h w r I) s=f (k e,p,cg):=by intro w r I;cases w<;>cases r<;>cases I<;>rfl)(cS:af B e=v:=by rfl)(dq:af i e=v:=by rfl)(aj:af ae e=v:=by rfl)(ck:U cg:=by simp only[U,a_];omega):b4 q D all F k (lm h B i ae) e s:=.bN cS dq aj λw r I=>aJ.eval aV iQ (t w r I) ck
def b4.aD(aV:bn P ad:=by exact ba)(iQ:a9 q CT:=by first|assumption|exact a9.nil)(t:∀w r I,hB ad CT [] all (dA all F k e) (h w r I) s=f (k e,p,[]):=by intro w r I;cases w<;>cases r<;>cases I<;>rfl)(cS:af B e=v:=by rfl)(dq:af i e=v:=by rfl)(aj:af ae e=v:=by rfl):b4 q D all F k (lm h B i ae) e s:=.du (cg:=[]) aV iQ t cS dq aj C
def b4.ef(d:af B e=m)(r:af B e=m)(b:af i e=v)(l:af ae e=v)(o:∀g j,aJ q D all s (dA all F k e) (h v g j) (k e) (h m g j)):b4 q D all F k (lm h B i ae) e s:=by intro y _ t;have n:=di d;subst n;show aJ q D all s _ (h (y B) (y i) (y ae)) _ (h (dk B y B) (dk B y i) (dk B y ae));rw[zN,m0 b,m0 l,t B (.inl a)];exact o _ _
def b4.eg(g:af i e=m)(b:af B e=v)(r:af ae e=v)(d:en all ae e=m)(t:af i e=m)(o:∀j,aJ q D all s (dA all F k e) (h j v v) (k e) (h j m v)):b4 q D all F k (lm h B i ae) e s:=by intro y _ l;have n:=di g;subst n;show aJ q D all s _ (h (y B) (y i) (y ae)) _ (h (dk i y B) (dk i y i) (dk i y ae));rw[zN,m0 b,m0 r,l i (.inl a),l ae (.inr d)];exact o _
def b4.eh(l:af ae e=m)(b:af B e=v)(d:af i e=v)(j:en all e i=m)(t:af ae e=m)(r:∀n,aJ q D all s (dA all F k e) (h n m v) (k e) (h n m m)):b4 q D all F k (lm h B i ae) e s:=by intro y aV g;have o:=di l;subst o;show aJ q D all s _ (h (y B) (y i) (y ae)) _ (h (dk ae y B) (dk ae y i) (dk ae y ae));rw[zN,m0 b,m0 d,g ae (.inl a),aV i j];exact r _
end
def xm(a:Nat->Bool):n Nat->Bool
 |[]=>v
 |b::d=>match a b with|true=>m|false=>xm a d
def GF{e:Nat->Bool}:∀{d:n Nat},xm e d=m->∃b∈d,e b=m
 |[],a=>by cases a
 |b::j,a=>by
  simp[xm]at a;split at a
  .grind
  obtain⟨i,g,h⟩:=GF a;grind
def v3(a:n ap)(d:Nat):Nat->n Nat->Bool
 |0,b=>ei d b
 |g+1,b=>match ei d b with|true=>m|false=>xm (λe=>v3 a d g (c8 (a.getD e ev).after.toList)) b
def zb{all}{h}{L:Nat->Prop}(i:∀j,j<c all->L j->∀a∈c8 (all.getD j ev).after.toList,L a):∀{k:Nat}{d:n Nat},v3 all h k d=m->(∀a∈d,L a)->L h
 |0,d,b,e=>e h (qO b)
 |k+1,d,b,e=>by
  simp only[v3]at b;split at b
  .grind [qO]
  obtain⟨a,q,g⟩:=GF b;rcases d6 a (c all) with l|l
  .exact zb i g (i a l (e a q))
  have:all.getD a ev=ev:=N;rw[this]at g;exact zb i g (λr o=>by simp[ev,c8]at o)
def uQ(a:n ap)(b:Nat)(d:n Nat):Nat->Bool
 |0=>m
 |e+1=>match v3 a e b d with|true=>uQ a b d e|false=>v
def Be{all}{h}{d}:∀{b:Nat},uQ all h d b=m->∀a,a<b->v3 all a h d=m
 |0,_,a,g=>by omega
 |b+1,e,a,g=>by
  simp[uQ]at e;split at e
  .rename_i i;by_cases j:a=b
   .grind
   exact Be e a x
  grind
def u9(a:n ap)(d:Nat):Nat->Nat->Bool
 |_,0=>m
 |b,e+1=>match uQ a d (c8 (a.getD b ev).after.toList) b with|true=>u9 a d (b+1) e|false=>v
def Cf{all}{g}:∀{b e:Nat},u9 all g b e=m->∀a,b<=a->a<b+e->uQ all g (c8 (all.getD a ev).after.toList) a=m
 |b,0,_,a,h,i=>by omega
 |b,e+1,d,a,h,i=>by
  simp[u9]at d;split at d
  .rename_i r;by_cases j:a=b
   .grind
   exact Cf d a x x
  grind
section
variable {q:ag P}
def tu(b:Nat)(pre:Nat->Bool)(e:Nat->y)(g:ι->Nat->y)(d:ι)(a:Nat):y:=match Nat.blt a b with|true=>kS pre e g d a|false=>.any
def g.eI(ad:P.follows Departure.mixedOrders=m)(z r U)(pre:Nat->Bool)(j:Nat->y)(A:ι->Nat->y)(e:ι->n an){id}(S:kU aH.toList=m)(T:od aH.toList 0=m)(V:ou D aH.toList=m)(Z:pre z=v)(ab:ol pre z aH.toList 0=m)(R:Nat.blt r (c aH.toList)=m)(h:Nat.blt z r=m)(Y:∀b,pre b=m->b<r)(k:u9 aH.toList U r (c aH.toList-r)=m)(w:re q D aH.toList F l j pre aH.toList 0)(q2:∀d,rf q D aH.toList F (e d) (tu r pre j A d) z (aH.toList.take r) 0)(Q:dx q D aH.toList (aH.toList.getD z ev) (dA aH.toList F j z) l (λd=>tu r pre j A d z) e)(I:∀d,g q D be (.aj aH.toList (aH.toList.drop r)::av) .normal (nt aH.toList F (tu r pre j A d)) (e d)):g q D be (.code (.region id aH m)::av) .normal F l:=by
 have R:=fe R;have h:=fe h;have:=b2.reg (q:=q) (D:=D) (F:=F) (l:=l) ad (all:=aH.toList) r (λi:Option ι=>i.elim j (tu r pre j A)) (λi _=>i.elim l e) (λi y=>i.isSome=y z/\(i=p->∀b,y b=m->pre b=m)) p ⟨rfl,λ_ _ W=>by cases W⟩ a S T V x
  (λb s B L ae o I E=>zb ae (Be (Cf k b s x) I E) o)
  (λi y J K b s B=>by
   obtain⟨d,rfl⟩:=yX J h K;have:Nat.blt b r=v:=by
    cases C:Nat.blt b r with
    |false=>rfl
    |true=>have:=fe C;omega
   simp[Option.elim,tu,this])
  (DO (bq:=λd _=>e d) Z ab (λd b o=>by have:Nat.blt b r=m:=AO (Y b o);simp[tu,this,kS,o])
   (λb u t o=>by have:=w.get b u t N;grind)
   (λd y b u t O M _ _=>by
    have aa:(aH.toList.take r)[b]?=f u:=N
    have:=(q2 d).get b u aa N;grind)
   (λu X=>by grind) (λ_ _ _=>rfl))
  (aP:=g q D be av) (λi y J K=>by obtain⟨d,rfl⟩:=yX J h K;exact I d) id
 exact ub
end
def ee(b:Nat)(e:aq)(h:Z):Z->(Nat->Option Obj)->Prop:=λg a=>g=.pointer (f ⟨b,0,p⟩)/\a b=f (.cells #[h] e (0,0))/\∀d,d≠b->a d=p
section
variable {q:ag P}
def aJ.gu(aV:bn P ad){o B}(d){e}(an:oZ all F s=m)(u:s.op=.load o (.global B))(J:c9 d l=f (.J (ee B W aa)))(r:b1 ad o=f e)(ab:dY aa=m)(S:hf e [.c (.val aa)]=f (.R (.c (.val aa)))):
  aJ q D all s F l (aw (.val aa)) l:=by
 intro b T ag I i av ai au ax M E K z;refine rB E K (j4 an _ _ _ ag) λh Y=>?_;have k:=I.rely Y;have aG:=er J;have ao:d<c h.t:=by rw[k.len];grind
 have w:=bG ao;generalize h.t[d]=L at w;obtain⟨ae,⟨ah,x,aq⟩,H,Z,ar⟩:=k.box d _ L aG w;have y:=H B _ x;have G:B∈L.al:=(Z B).2 N
 have X:T.eval (.global B)=.pointer (f ⟨B,0,p⟩):=rfl;have O:bO l h [aa] [.c (.val aa)]:=⟨Rd.val ab,C⟩;obtain⟨R,V,Q⟩:=tJ (b:=h) (l:=l) (P:=P) (aV o e r) (i:=B) (off:=0) (A:=[aa]) (ai:=[.c (.val aa)]) (aj:=.R (.c (.val aa))) (λU az t=>by
  simp only[aM,y]
  grind) O S
 refine⟨.value R,h,R,by simp[ac,u,X,Instr.loadAt,Instr.sureAddr,V],.inl a,⟨⟨l,l,k,k,.refl _ _⟩,?_⟩,z R h Q k Y.aY⟩;intro n g;have ak:n∈(loadVar o ⟨B,0,p⟩).events P h.a #[]:=by
  have aj:ac T.eval s=(do pure (.value (<-loadVar o ⟨B,0,p⟩))):=by simp[ac,u,X,Instr.loadAt,Instr.sureAddr]
  rw[aj]at g;simpa[V]using g
 obtain⟨U,t,rfl⟩:=pp (aV o e r) (j:=1) (λU t=>⟨aa,by simp only[aM,y];grind⟩) (by have:=sf S;grind) n ak;exact qt (ca w) G
end
section
variable {q:ag P}
def uo{P}(i:ag P)(h:Nat)(a:n ap)(g:bI)(b:n an)(e:Nat->y):n y->n ap->Nat->Prop
 |_::l,k::j,d=>aJ i h a k (dA a g e d) b (e d) b/\uo i h a g b e l j (d+1)
 |[],_,_=>True
 |_::_,[],_=>False
theorem uo.get{all}{k:Nat->y}:∀{i:n y}{j:n ap}{h:Nat},uo q D all F l k i j h->∀a e,j[a]?=f e->a<c i->aJ q D all e (dA all F k (h+a)) l (k (h+a)) l
 |[],_,_,_,a,e,_,b=>absurd b (iH _)
 |_::i,[],_,g,a,e,_,b=>g.elim
 |o::i,r::j,h,g,0,e,d,_=>by cases d;exact g.1
 |o::i,r::j,h,g,a+1,e,d,b=>by have:=uo.get g.2 a e d N;grind
def g.gk(B:P.follows Departure.mixedOrders=m)(ah)(r){id}(u:kU aH.toList=m)(w:od aH.toList 0=m)(z:ou D aH.toList=m)(i:ay (c ah) (c aH.toList)=m)(e:u9 aH.toList r (c ah) (c aH.toList-c ah)=m)(h:uo q D aH.toList F l (λd=>ah.getD d .any) ah aH.toList 0)(s:g q D be (.aj aH.toList (aH.toList.drop (c ah))::av) .normal (nt aH.toList F λd=>ah.getD d .any) l):g q D be (.code (.region id aH m)::av) .normal F l:=by
 have i:=fe i;have:=b2.reg (q:=q) (D:=D) (F:=F) (l:=l) B (all:=aH.toList) (c ah) (λ_:Unit=>λd=>ah.getD d .any) (λ_ _=>l) (λ_ _=>True) () C a u w z i
  (λd b j L E A s n=>zb E (Be (Cf e d b x) s n) A)
  (λt y _ _ d b j=>by grind)
  (λt y d I _ o k _ _ _=>by have b:=h.get d I o k;rw[cV]at b;exact b.tocF ⟨(),λ_ _=>rfl,C⟩ a a)
  (aP:=g q D be av) (λt y _ _=>s) id
 exact ub
end
section
variable {q:ag P}
def p7{e:Type}(w:ag P)(u:Nat)(k:fv)(t:n ik)(s:e->Prop)(r:e->bI)(o:e->n an)(q:e->Nat)(x:Nat)(y:e):fv:=λl d h=>match l with
 |.normal=>∃i j,x<=j/\s i/\q i<q y/\iD d (r i)/\qI j (r i)=m/\∃a b,h=a++b/\c a=j/\(ko j a=m/\jU b=m)/\ri a (o i)
 |l=>g w u k t l d h
def g.ht{C:Type}(aa)(A:C->Prop)(e:C->bI)(b':C->n an)(Y:C->Nat)(k){dr}(au:iT F (e k)=f ab)(aD:U ab)(aJ:jp l (b' k)=f dr)(ax:U dr)(aG:c l=aa)(aw:A k)(round:∀k,A k->g q D (p7 q D be av A e b' Y aa k) [.code r] .normal (e k) (b' k)):g q D be (.code (.loop r)::av) .normal F l:=by
 intro ak w aE t i W R K b T;have u:=jT aJ ax;obtain⟨aQ,O,_⟩:=u ak t;refine xo (λah d az=>∃X,A X/\bZ D (b' X) az (e X) d/\bd (b' X) az/\dd l ak (b' X) az/\Y X=ah) ?_ ?_ ⟨k,aw,(aE.le (eH au aD)).al u t,aQ,O.too' t,a⟩
 .rintro j d az ⟨X,J,Q,B,I,aj⟩;exact OU
 rintro ah d az ⟨X,J,Q,B,I,rfl⟩ V;refine round X J az d Q B i (.inLoop r::W) R K b ?_;intro aj aP aq z M ai H s h;cases aj with
 |normal=>
  obtain⟨ao,aK,ag,aC,aI,aH,aS,o,Z,rfl,ae,⟨aR,ar⟩,aM⟩:=ai;have G:=s.drop N;obtain⟨aO,ad,aL⟩:=aM _ G;have y:=H.le aH;have S:eY z (z.cut (c o)):=⟨rfl,λ_ _ _ aF=>aF,λ_ _ _=>rfl,s.mem,λi b=>b.imp id λ⟨L,aA,b⟩=>⟨L,hh aA,b⟩⟩
  refine .aU S (V M (z.cut (c o)) (Y ao) aI ⟨ao,aC,⟨y.size,y.defers.imp λ_ cS=>(cS.drop ar).mono ad.ext,λaN=>aL _ _ ((y.aK aN).drop (vt N))⟩,aO,?_,a⟩);exact((I.trans h).drop x).trans (ad.too' G)
 |_=>exact kO.cons (λ_ _=>rfl) E (T _ _ _ _ _ ai H s (I.trans h))
def g.fw{d:Type}{o}{h:d->Prop}{a:d->bI}{b:d->n an}{r:d->Nat}{k}{u}(j)(X){dr}(e:o<=j)(x:iT F (a X)=f ab)(z:U ab)(s:qI j (a X)=m)(w:vK j l=m)(i:jp (l.take j) (b X)=f dr)(A:U dr)(y:ko j (l.take j)=m)(B:h X)(t:r X<r k):
  g q D (p7 q D be u h a b r o k) [] .normal F l:=
 ⟨X,j,e,B,t,eH x z,s,l.take j,l.drop j,(Gq j l).symm,by grind[Nat.le_of_ble_eq_true,yZ],⟨y,(yZ w).2⟩,jT i A⟩
def g.fK{s:Type}{r}{j:s->Prop}{e:s->bI}{h:s->n an}{o:s->Nat}{k}{id}{x i y}(t:iP id x=p)(u:iP id i=f y)(z:g q D be y .normal F l):
  g q D (p7 q D be i j e h o r k) (.code (.exit id)::x) .normal F l:=
 b2.mono (g.bt (Q:=λa b=>p7 q D be i j e h o r k .normal a b) t u z) λd a b A=>by
  have key:∀w d,g q D (λd a b=>match d with
    |.normal=>p7 q D be i j e h o r k .normal a b
    |d=>g q D be i d a b) w d a b->g q D (p7 q D be i j e h o r k) w d a b:=by
   have d:(λd a b=>match d with
    |.normal=>p7 q D be i j e h o r k .normal a b
    |d=>g q D be i d a b)=p7 q D be i j e h o r k:=by funext d a b;cases d<;>rfl
   grind
  exact key _ _ A
end
def cX(d:bI)(a:n Nat):bI:=a.map λb=>(b,look d b)
section
variable {q:ag P}
def g.dI{e:Type}(j)(aS)(d:e->Prop)(a:e->bI)(b:e->n an)(o:e->Nat)(k){dr}(i:iT F (cX F aS++a k)=f ab)(s:U ab)(w:jp l (b k)=f dr)(t:U dr)(h:c l=j)(x:d k)(round:∀k,d k->g q D (mn q D be av d (λk=>cX F aS++a k) b o j k) [.code r] .normal (cX F aS++a k) (b k)):g q D be (.code (.loop r)::av) .normal F l:=
 .aE j d (λk=>cX F aS++a k) b o k i s w t h x round
end
section
variable {q:ag P}{k:Nat->y}{d:Bool->Bool->Bool->Bool->n an}{ae aj h B:Nat}
abbrev mE(g:Bool->Bool->Bool->Bool->n an)(b a e d:Nat):(Nat->Bool)->n an:=λy=>g (y b) (y a) (y e) (y d)
theorem nQ{y:Nat->Bool}(a:af u e=v):dk e y u=y u:=by simp only[dk,a]
theorem wu{y:Nat->Bool}:dk e y e=m:=Ad
def b4.jJ(j:af ae e=v)(l:af aj e=v)(r:af h e=v)(o:af B e=v)(n:∀a b g i,aJ q D all s (dA all F k e) (d a b g i) (k e) (d a b g i)):b4 q D all F k (mE d ae aj h B) e s:=by intro y _ _;grind[nQ]
def b4.jK(aV:bn P ad)(iQ:a9 q CT)(ck:U cg)(t:∀w i r I,hB ad CT [] all (dA all F k e) (d w i r I) s=f (k e,p,cg):=by intro w i r I;cases w<;>cases i<;>cases r<;>cases I<;>rfl)(cS:af ae e=v:=by rfl)(dq:af aj e=v:=by rfl)(z:af h e=v:=by rfl)(u:af B e=v:=by rfl):b4 q D all F k (mE d ae aj h B) e s:=.jJ cS dq z u λw i r I=>aJ.eval aV iQ (t w i r I) ck
def b4.aZ(aV:bn P ad:=by exact ba)(iQ:a9 q CT:=by first|assumption|exact a9.nil)(t:∀w i r I,hB ad CT [] all (dA all F k e) (d w i r I) s=f (k e,p,[]):=by intro w i r I;cases w<;>cases i<;>cases r<;>cases I<;>rfl)(cS:af ae e=v:=by rfl)(dq:af aj e=v:=by rfl)(z:af h e=v:=by rfl)(u:af B e=v:=by rfl):b4 q D all F k (mE d ae aj h B) e s:=.jK (cg:=[]) aV iQ C t cS dq z u
def b4.ay(dq:af aj ae=v)(I:af h ae=v)(w:af B ae=v)(r:en all aj ae=m)(e:en all h ae=m)(i:en all B ae=m)(t:aJ q D all s (dA all F k ae) (d v v v v) (k ae) (d m v v v)):b4 q D all F k (mE d ae aj h B) ae s:=Ac
def b4.eU(a:af ae aj=v)(i:af h aj=v)(e:af B aj=v)(b:en all aj ae=m)(l:en all h aj=m)(g:en all B aj=m)(j:aJ q D all s (dA all F k aj) (d m v v v) (k aj) (d m m v v)):b4 q D all F k (mE d ae aj h B) aj s:=Ac
def b4.eW(a:af ae h=v)(b:af aj h=v)(i:af B h=v)(j:en all h ae=m)(g:en all h aj=m)(e:en all B h=m)(l:aJ q D all s (dA all F k h) (d m m v v) (k h) (d m m m v)):b4 q D all F k (mE d ae aj h B) h s:=Ac
def b4.eX(a:af ae B=v)(b:af aj B=v)(i:af h B=v)(j:en all B ae=m)(g:en all B aj=m)(e:en all B h=m)(l:aJ q D all s (dA all F k B) (d m m m v) (k B) (d m m m m)):b4 q D all F k (mE d ae aj h B) B s:=Ac
end
section
variable {ad:n (Nat×bv)}
def a0.jW(aV:bn P ad){J U}(ab:s.op=.slice o k (f J) (f X) (f U)){G a4}(ag:b1 ad o=f G)(L:G.desc=.slice W)(ah:b1 ad W=f a4){eU}{q d n}{e u z}(ak:∀ae r,bx l ae r (η k)->Rd ae.E r (.C eU a4.size j V))(ai:η J=aw (.int q e))(aj:η X=aw (.int d u))(aP:η U=aw (.int n z))(Z:0<=e)(aF:e<=u)(au:u<=z)(av:z<=j):
  a0 P s η l (aw (.C v a4.size (u.toNat-e.toNat) (fA e.toNat V))) l:=by
 refine .aW λb I ax C=>?_;have T:=ak b _ (C k);have get:∀h S r,η h=aw (.int S r)->I h=.int S r:=λh S r y=>by have t:=C h;rw[y]at t;replace t:=b8 t;generalize I h=aA at t;cases t;rfl
 have Q:=get J q e ai;have O:=get X d u aj;have Y:=get U n z aP;obtain⟨aa,g,A,H,aD,aE,aG,a,az⟩:=T.b3;rw[H]at T;have M:=(aV o G ag).run_underlying (J:=b.a);rw[L]at M;have em:((z.toNat:Nat):Int)=z:=rr x;have aq:((u.toNat:Nat):Int)=u:=rr x;have w:(aX m j g (f (.int q e)) (f (.int d u)) (f (.int n z))).run P b.a=.ok (e.toNat,u.toNat,z.toNat) b.a:=by simp[aX,run_sliceBound (P:=P) b.a n z g _ x x,run_sliceBound (P:=P) b.a d u z.toNat _ x x,run_sliceBound (P:=P) b.a q e u.toNat _ Z x]
 have an:(aX m j g (f (.int q e)) (f (.int d u)) (f (.int n z))).events P b.a #[]=#[]:=by simp[aX,run_sliceBound (P:=P) b.a n z g _ x x,run_sliceBound (P:=P) b.a d u z.toNat _ x x,li (P:=P) b.a n z g _ x x,li (P:=P) b.a d u z.toNat _ x x,li (P:=P) b.a q e u.toNat _ Z x]
 refine⟨.slice (if z.toNat=e.toNat then aa else aa.map (·.add (e.toNat*a4.size))) (u.toNat-e.toNat) (z.toNat-e.toNat),?_,?_,by simp[ac,ab,H,Q,O,Y,Instr.sliceAt,M,Instr.slice,w,an]⟩
 .simp[ac,ab,H,Q,O,Y,Instr.sliceAt,M,Instr.slice,w,(aV W a4 ah).bk]
 cases T with
 |C ao F ar _ _ _ R N B D=>
  refine Rd.C ao (F+e.toNat*a4.size) (λh u=>ar (e.toNat+h) u) x x E (λh y=>R _ x) (λaC=>?_) (λh y u K i=>?_) (λh y u K i=>D _ x u K i)
  .rw[bl x,N x];simp[gQ]
  have:=B (e.toNat+h) x u K i;grind
end
def ja(i:Z)(k:n Int):Z->(Nat->Option Obj)->Prop:=λl e=>l=i/\∃j a h,i=.map (f j)/\(∀g,e g=if g=j then f (.map a h)else p)/\MapKept.Stamped a h /\
 (∀d∈a.toList,∃b,d.key=.int .i64 b/\d.val=.bool m/\a7 .i64 b)/\∀b,b∈k↔∃d∈a.toList,d.key=.int .i64 b
structure Sa(l:n an)(b:a5)(i:Nat)(ae:Z)(d:n Int)(L:Loc)(bb:Nat)(V:Array MapEntry)(r:Nat):Prop where
 bY:b.t[i]?=f L
 v:L.v=ae
 b':ae=.map (f bb)
 bE:MapKept.Stamped V r
 cx:∀aj∈V.toList,∃j,aj.key=.int .i64 j/\aj.val=.bool m/\a7 .i64 j
 mem:∀j,j∈d↔∃aj∈V.toList,aj.key=.int .i64 j
 heap:b.a.heap[bb]?=f (.map V r)
 al:∀i,i∈L.al↔i=bb
def ja.open{ae}{d}(bQ:bd l b)(n:l[i]?=f (.J (ja ae d))):∃L g a h,Sa l b i ae d L g a h:=by have e:i<c b.t:=h0;obtain⟨q,⟨j,g,a,h,k,w,r,t,o⟩,s,u,_⟩:=bQ.box i _ _ n (bG e);exact⟨_,g,a,h,bG e,j,k,r,t,o,s g _ N,λi=>by grind⟩
section
variable {ad S bc:aq}{cL:aA}{ae:Z}{d:n Int}{j:Int}
def Ko{b:Array MapEntry}(g:∀a∈b.toList,∃d,a.key=.int .i64 d/\a.val=.bool m/\a7 .i64 d):∀a∈b.toList,MapKept.IsKey (.int .i64) a.key:=λa e=>by obtain⟨d,h,_⟩:=g a e;exact hu
def Ed{ae}{a}(e:bx l b aa a)(d:a=cM ae):aa=ae:=by subst d;exact Rd.bp e
def L2{j}{a}(e:bx l b aa a)(d:a=aw (.int .i64 j)):aa=.int .i64 j/\a7 .i64 j:=by subst d;have:=b8 e;generalize aa=g at this;cases this;exact bw
def a0.jQ(x:s.op=.lookup ad k X v)(aV:P.underlying ad=f (.map S bc))(e:P.underlying S=f (.int .i64))(T:∀J,(zeroValue bc).run P J=.ok (.bool v) J)(D:l[i]?=f (.J (ja ae d)))(R:η k=cM ae)(y:η X=aw (.int .i64 j)):a0 P s η l (aw (.bool (d.contains j))) l:=by
 refine a0.dw λo Z C r=>?_;obtain⟨L,t,A,ab,b⟩:=ja.open C D;have q:=(Ed (r k) R).trans b.b';obtain⟨Q,G⟩:=L2 (r X) y;obtain⟨U,z⟩:=JQ (I:=.int .i64) (h:=.int .i64 j) rfl (Ko b.cx);have B:h5 o ⟨.obj t,v,v⟩:=mD (ca b.bY) ((b.al t).2 a);have key:∃g:Bool,(Instr.lookup ad (.map (f t)) (.int .i64 j) v).run P o.a=.ok (.bool g) o.a/\(Instr.lookup ad (.map (f t)) (.int .i64 j) v).events P o.a #[]=#[⟨.obj t,v,v⟩]/\g=d.contains j:=by
  cases U with
  |none=>
   obtain⟨n,u⟩:=KE (ok:=v) aV e b.heap z (λ_=>T o.a)
   exact⟨v,n,u,by
    symm;rw[<-qd,AT,b.mem]
    rintro⟨w,O,e⟩;exact z.df a w O e⟩
  |some F=>
   obtain⟨Y,g⟩:=F;obtain⟨n,u⟩:=KE (ok:=v) (cL:=K) aV e b.heap z (λx=>by cases x);obtain⟨w,V,W,aa⟩:=z.gI Y g rfl;have E:w∈A.toList:=N;obtain⟨_,_,H,_⟩:=b.cx w E;exact⟨m,n.trans (show Result.ok g o.a=_ by grind),u,by symm;rw[AT,b.mem];grind⟩
 obtain⟨g,n,u,M⟩:=key;refine⟨.bool g,?_,by rw[<-M];exact Rd.bool,?_⟩
 .simp only[ac,x,q,Q,cI,n,c7,d_]
 simp only[ac,x,q,Q,aF,n,u,aK,Sem.events_pure];exact .R B
def a0.jS(ag:s.op=.mapUpdate ad k X cL)(aV:P.underlying ad=f (.map S bc))(D:P.underlying S=f (.int .i64))(F:l[i]?=f (.J (ja ae d)))(an:η k=cM ae)(ak:η X=aw (.int .i64 j))(aj:η cL=aw (.bool m)):a0 P s η l .any (l.set i (.J (ja ae (d++[j])))):=by
 intro q K C w;obtain⟨L,n,r,ab,e⟩:=ja.open C F;have A:=(Ed (w k) an).trans e.b';obtain⟨aa,az⟩:=L2 (w X) ak;have Z:K cL=.bool m:=by have:=w cL;rw[aj]at this;have:=b8 this;generalize K cL=Y at this;cases this;rfl
 obtain⟨aq,M⟩:=JQ (I:=.int .i64) (h:=.int .i64 j) rfl (Ko e.cx);have z:∀Y,h5 q ⟨.obj n,Y,v⟩:=λY=>mD (ca e.bY) ((e.al n).2 a);have G:=(je.1 e.heap).1;have key:∃b o,(Instr.mapUpdate ad (.map (f n)) (.int .i64 j) (.bool m)).run P q.a=.ok () {q.a with heap:=q.a.heap.setIfInBounds n (.map b o)}/\(Instr.mapUpdate ad (.map (f n)) (.int .i64 j) (.bool m)).events P q.a #[]=#[⟨.obj n,v,v⟩,⟨.obj n,m,v⟩] /\
   MapKept.Stamped b o/\(∀g∈b.toList,∃j,g.key=.int .i64 j/\g.val=.bool m/\a7 .i64 j)/\∀R,R∈d++[j]↔∃g∈b.toList,g.key=.int .i64 R:=by
  cases aq with
  |none=>
   obtain⟨x,J⟩:=NA (k:=.bool m) aV D e.heap M;refine⟨_,_,x,J,MapKept.stamped_push e.bE (M.df a),λg Q=>?_,λR=>?_⟩
   .rw[Array.toList_push,gl]at Q;rcases Q with Q|Q
    .exact e.cx g Q
    grind
   rw[gl,e.mem,Array.toList_push];constructor
   .rintro(⟨g,u,B⟩|u)
    .grind
    simp_all
   grind
  |some W=>
   obtain⟨V,ar⟩:=W;obtain⟨g,u,B,ax⟩:=M.gI V ar rfl;have U:g∈r.toList:=N;obtain⟨_,_,ai,_⟩:=e.cx g U;have au:r.modify V (λg=>{key:=.int .i64 j,val:=.bool m,born:=g.born})=r:=by
    apply Array.ext_getElem?;intro ah;rw[AU];split
    .rename_i bp;subst bp;rw[u,<-B,<-ai];rfl
    simp
   obtain⟨x,J⟩:=NA (k:=.bool m) aV D e.heap M;refine⟨r,ab,x.trans (show Result.ok () {q.a with heap:=q.a.heap.setIfInBounds n (.map (r.modify V λg=>{key:=.int .i64 j,val:=.bool m,born:=g.born}) ab)}=_ by grind),J,e.bE,e.cx,λR=>?_⟩;rw[gl,e.mem];constructor
   .rintro(y|y)
    .exact y
    grind
   grind
 obtain⟨b,o,x,J,ao,H,aP⟩:=key;have O:=C.cf (j7:=ja ae (d++[j])) (cp:=L) (bj:={q.a with heap:=q.a.heap.setIfInBounds n (.map b o)}) F e.bY rfl E (λi _ t=>by show(q.a.heap.setIfInBounds n _)[i]?=_;rw[sM (by rintro rfl;exact t ((e.al n).2 rfl))]) (λi t=>.inl t)
  ⟨λi=>if i=n then f (.map b o)else p,⟨e.v,n,b,o,e.b',λ_=>rfl,ao,H,aP⟩,λi av t=>by grind,λi=>by rw[e.al];by_cases g:i=n<;>simp[g]⟩ a a a
 have T:q.t.set i L=q.t:=by
  apply qg;intro ah;by_cases g:i=ah
  .subst g;rw[io (cO.1 e.bY).1,e.bY]
  grind
 rw[T]at O;refine⟨.skip,_,?_,a,O.1,O.2,?_⟩
 .simp only[ac,ag,A,aa,Z,cI,x,c7,d_]
 simp only[ac,ag,A,aa,Z,aF,x,J,aK,Sem.events_pure];exact .fp (z _) (z _)
end
section
variable {q:ag P}{ad:aq}
def g.h1(n:s.op=.makeMap ad p)(x:s.guard=p)(y:fg D s.dst=m)(w:∀j,g q D be (.aj all bs::av) .normal (fW s.dst (cM j) F) (l++[.J (ja j [])])):g q D be (.aj all (s::bs)::av) .normal F l:=by
 refine g.cJ (ι:=Z) (λj=>cM j) (λj=>l++[.J (ja j [])]) x y (λb A I e=>?_) w;let bj:au:={b.a with heap:=b.a.heap.push (.map #[] 0)}
 have B:bj.heap[b.a.heap.size]?=f (.map #[] 0):=N;have E:bj.heap.size=b.a.heap.size+1:=N;obtain⟨t,o⟩:=e.cX (ce:=b.E) (bj:=bj) N (λh d=>by grind) (λ_ _ _=>rfl) (λh d s z i=>by have:=e.block i;omega) rfl rfl rfl;obtain⟨u,r⟩:=t.b2 o rfl e (bY:=.J (ja (.map (f b.a.heap.size)) [])) (L:=⟨.map (f b.a.heap.size),[b.a.heap.size]⟩)
  ⟨λh=>if h=b.a.heap.size then f (.map #[] 0)else p,⟨rfl,_,#[],0,rfl,λ_=>rfl,MapKept.stamped_empty 0,λk J=>by grind,λC=>by simp⟩,λh s d=>by
   grind,λh=>by by_cases k:h=b.a.heap.size<;>simp[k],λh d s=>by
   simp at d;subst d;show b.E _ _=p;cases i:b.E b.a.heap.size s with
   |none=>rfl
   |some z=>have:=e.block i;omega⟩ (λh d=>by grind)
 refine⟨.map (f b.a.heap.size),.value (.map (f b.a.heap.size)),_,.map (f b.a.heap.size),?_,.inl a,Rd.val a,u,r,?_⟩
 .simp[ac,n,Instr.makeMap,run_newObj,bj]
 simp[ac,n,Instr.makeMap];exact .nil
end
section
variable {ad:n (Nat×bv)}
def a0.hZ(aV:bn P ad){J}(aa:s.op=.slice o k (f J) (f X) p){H a4}(aj:b1 ad o=f H)(an:H.desc=.slice W)(ar:b1 ad W=f a4){B h S}{t r}{e u}(ax:η k=cz d (.C B h S j))(M:a4.size=h){aP N}(C:l[d]?=f (.q aP N B V))(au:η J=aw (.int t e))(av:η X=aw (.int r u))(az:0<=e)(aA:e<=u)(aC:S+u<=B):a0 P s η l (cz d (.C B h (S+e.toNat) (u.toNat-e.toNat))) l:=by
 subst M;refine .aW λg q K n=>?_;have ai:=n k;rw[ax]at ai;have ah:=ai;change cx l g (q k) (.S d _)at ah;obtain⟨R,⟨Z,E,b,Y,U,ab,aI,ak,T,G⟩,y,ae⟩:=ah;have aH:B<=Y:=by
  obtain⟨L,aq,Q⟩:=(ae _ _ _ _ C).2 rfl;rcases K.box d _ L C aq with⟨rfl,rfl⟩|⟨i,g2,A,aF,rfl,_,_,ao,_⟩
  .exact g0 _
  rw[T]at Q;cases Q;exact ao
 have D:=n J;rw[au]at D;replace D:=b8 D;generalize ag:q J=aD at D;cases D;have w:=n X;rw[av]at w;replace w:=b8 w;generalize O:q X=aE at w;cases w;have F:=(aV o H aj).run_underlying (J:=g.a);rw[an]at F;have z:(aX m j b (f (.int t e)) (f (.int r u)) p).run P g.a=.ok (e.toNat,u.toNat,b) g.a:=by simp[aX,run_sliceBound (P:=P) g.a r u b _ x x,run_sliceBound (P:=P) g.a t e u.toNat _ x x]
 have I:(aX m j b (f (.int t e)) (f (.int r u)) p).events P g.a #[]=#[]:=by
  simp[aX,run_sliceBound (P:=P) g.a r u b _ x x,run_sliceBound (P:=P) g.a t e u.toNat _ x x,
   li (P:=P) g.a r u b _ x x,li (P:=P) g.a t e u.toNat _ x x]
 refine⟨.slice (if b=e.toNat then Z else Z.map (·.add (e.toNat*a4.size))) (u.toNat-e.toNat) (b-e.toNat),?_,⟨R,⟨_,E,_,Y,a,by omega,by omega,ak,T,λaG=>?_⟩,y,ae⟩,by simp[ac,aa,U,ag,O,Instr.sliceAt,F,Instr.slice,z,I]⟩
 .simp[ac,aa,U,ag,O,Instr.sliceAt,F,Instr.slice,z,(aV W a4 ar).bk]
 obtain⟨i,rfl,rfl⟩:=G x;exact P8
end
section
open Go.ChangeMaps (setBlock)
section
def WT(d)(ty)(b i e n)(seen)(V)(clock)(s:d.heap[b]?=f (.mapIter (f i) e seen n))(u:d.heap[i]?=f (.map V clock))(A:∀k∈V.toList,k.born<e)(D:e<=n):
    ∀h∈(Instr.next (.pointer (f ⟨b,0,p⟩)) v ty).events P d #[],h.sync=v/\(h.loc=.obj b∨h.loc=.obj i):=by
  have J:(getObj b).run P d=.ok (.mapIter (f i) e seen n) d:=by simp[getObj,Sem.run,s]
  have F:(getObj i).run P d=.ok (.map V clock) d:=by simp[getObj,Sem.run,u]
  have Q:∀V,(getObj b).events P d V=V.push ⟨.obj b,v,v⟩:=λV=>by simp only[getObj,Sem.events,Sem.runT,s];rfl
  have I:∀V,(getObj i).events P d V=V.push ⟨.obj i,v,v⟩:=λV=>by simp only[getObj,Sem.events,Sem.runT,u];rfl
  have K:∀w1 q j,w1.heap[b]?=f (.mapIter (f i) e seen n)->(setObj b (.mapIter (f i) e q clock)).events P w1 j=j.push ⟨.obj b,m,v⟩:=λw1 q j g=>by simp[setObj,Sem.events,Sem.runT,g];rfl
  have z:∀w1 o,w1.heap[b]?=f (.mapIter (f i) e seen n)->∃w2,(setObj b o).run P w1=.ok () w2:=λw1 o g=>⟨{w1 with heap:=w1.heap.setIfInBounds b o},by simp[setObj,Sem.run,g]⟩
  simp only[Instr.next,aF,J,F,Q,I,aK,next_test_false seen V e n A D,ka,dh];generalize y:((if(Array.filter (λk=>decide (k.born<e)) (Array.filter (λh=>!seen.contains h.born) V)).isEmpty=m then #[p]else #[])++Array.map f (Array.filter (λk=>decide (k.born<e)) (Array.filter (λh=>!seen.contains h.born) V)++Array.filter (λk=>decide (k.born≥e)) (Array.filter (λh=>!seen.contains h.born) V)))=L;have O:∃r w1,(w1=d∨w1=d.drew)/\(choose (Question.mapNext L.size)).run P d=.ok r w1/\∀V,(choose (Question.mapNext L.size)).events P d V=V:=by
    by_cases w:L.size<=1
    · exact⟨0,d,Or.inl a,by simp[choose,Sem.run,Question.forced,w],λV=>by simp⟩
    · exact⟨_,d.drew,Or.inr a,by simp only[choose,Sem.run,Question.forced,bA,w,dh,Question.cut];rfl,λV=>by simp⟩
  obtain⟨r,w1,E,B,C⟩:=O;have t:w1.heap[b]?=f (.mapIter (f i) e seen n):=by rcases E with rfl|rfl<;>exact s
  simp only[B,C,aK];intro h l;have fin:h∈(#[⟨.obj b,v,v⟩,⟨.obj i,v,v⟩,⟨.obj b,m,v⟩]:Array aT):=by
    cases x:L[r]? with
    |none=>rw[x]at l;simp[stuck,Sem.events,Sem.runT]at l;rcases l with g|g<;>simp[g]
    |some o=>
      rw[x]at l;cases o with
      |none=>simp at l;rcases l with g|g<;>simp[g]
      |some k=>
        obtain⟨w2,M⟩:=z w1 (.mapIter (f i) e (seen.push k.born) clock) t;simp[K w1 _ _ t]at l;rcases l with g|g|g<;>simp[g]
  simp at fin;rcases fin with rfl|rfl|rfl<;>simp
def UT(a)(b i e)(seen:Array Nat)(V)(clock)(d)(g:a.heap[b]?=f (.mapIter (f i) e (seen.push d.born) clock))(h:a.heap[i]?=f (.map V clock))(q:d∈V.toList)(r:(V.toList.map (·.born)).Nodup):
    (Instr.entry (.pointer (f ⟨b,0,p⟩))).events P a #[]=#[⟨.obj b,v,v⟩,⟨.obj i,v,v⟩]:=by
  have j:V.find? (·.born==d.born)=f d:=by rw[<-Array.find?_toList];grind[find_born]
  have n:(getObj b).run P a=.ok (.mapIter (f i) e (seen.push d.born) clock) a:=by simp[getObj,Sem.run,g]
  have k:(getObj i).run P a=.ok (.map V clock) a:=by simp[getObj,Sem.run,h]
  have o:∀V,(getObj b).events P a V=V.push ⟨.obj b,v,v⟩:=λV=>by simp only[getObj,Sem.events,Sem.runT,g];rfl
  have l:∀V,(getObj i).events P a V=V.push ⟨.obj i,v,v⟩:=λV=>by simp only[getObj,Sem.events,Sem.runT,h];rfl
  simp only[Instr.entry,aF,n,k,o,l,aK,Array.back?_push,ip,ka,dh,j];rfl
def k5(h e:Nat)(b:Array Nat):Z->(Nat->Option Obj)->Prop:=λi a=>∃d:Nat,i=.pointer (f ⟨d,0,p⟩)/\a=λg=>if g=d then f (.mapIter (f h) e b e)else p
def ut(H:Z->(Nat->Option Obj)->Prop)(e:Nat)(b:Array MapEntry)(d:Nat):Prop:=∀g a,H g a->a e=f (.map b d)
variable {q:ag P}
def bd.ej(bQ:bd l b)(aG:l[d]?=f (.J H)){g}{V}{r}(h:ut H g V r):b.a.heap[g]?=f (.map V r)/\∃L∈b.t,g∈L.al:=by have e:d<c b.t:=h0;obtain⟨i,a,j,k,n⟩:=bQ.box d _ b.t[d] aG (bG e);have:=h _ _ a;grind
def bd.hi(bQ:bd l b){j r}{dz}(aG:l[d]?=f (.J (k5 j r dz))):∃a:Nat,b.t[d]?=f ⟨.pointer (f ⟨a,0,p⟩),((b.t[d]?).map (·.al)).getD []⟩/\b.a.heap[a]?=f (.mapIter (f j) r dz r)/\∀L,b.t[d]?=f L->∀e,e∈L.al↔e=a:=by
  have h:d<c b.t:=h0;have i:=bG h;obtain⟨k,⟨a,n,o⟩,g,t,s⟩:=bQ.box d _ b.t[d] aG i;refine⟨a,?_,g a _ N,λL q e=>?_⟩
  · rw[i];simp[<-n]
  grind
def g.range{o k I}{u z}(j:s.op=.range o (.tmp k))(ae:s.dst=f I)(W:s.guard=p)(G:fg D s.dst=m)(J:P.underlying o=f (.map u z)){bb}(R:∀b n,bZ D l b F n->bd l b->n.eval (.tmp k)=.map (f bb)){qN:Nat}{H:Z->(Nat->Option Obj)->Prop}{V}{r}(aG:l[qN]?=f (.J H))(N:ut H bb V r)(ah:g q D be (.aj all bs::av) .normal ((I,.p (.R (.aV (c l))))::F) (l++[.J (k5 bb r #[])])):g q D be (.aj all (s::bs)::av) .normal F l:=by
  refine g.cJ (ι:=Unit) (λ_=>.p (.R (.aV (c l)))) (λ_=>l++[.J (k5 bb r #[])]) W G ?_ λ_=>by exact hu
  intro b n O h;have K:=R b n O h;obtain⟨A,L,ad,T⟩:=h.ej aG N;have C:=run_range_map b.a o u z bb V r J A;have E:(Instr.range o (.map (f bb))).events P b.a #[]=#[⟨.obj bb,v,v⟩]:=by
    have Y:∀V,(getObj bb).events P b.a V=V.push ⟨.obj bb,v,v⟩:=λV=>by simp only[getObj,Sem.events,Sem.runT,A];rfl
    have ab:∀s M V,(newObj s).events P M V=V:=λs M V=>by simp
    simp[Instr.range,run_underlying J,MapKept.run_getObj_map A,Y,ab]
  have ag:∀d,b.a.heap.size<=d->∀s,b.E d s=p:=λd e s=>by
    cases i:b.E d s with
    |none=>rfl
    |some aa=>have:=h.block i;omega
  let bj:au:=b.a.alloc (.mapIter (f bb) r #[] r);have Q:bj.heap.size=b.a.heap.size+1:=by show(b.a.heap.push _).size=_;simp
  have ai:bj.heap[b.a.heap.size]?=f (.mapIter (f bb) r #[] r):=lZ _ _;obtain⟨y,X⟩:=h.cX (ce:=b.E) (bj:=bj) x (λd e=>iR _ _ e) (λ_ _ _=>rfl) (λd e s aa i=>by grind) rfl rfl rfl;obtain⟨t,w⟩:=y.b2 (bY:=.J (k5 bb r #[])) (L:=⟨.pointer (f ⟨b.a.heap.size,0,p⟩),[b.a.heap.size]⟩) X rfl h
    ⟨λd=>if d=b.a.heap.size then f (.mapIter (f bb) r #[] r)else p,⟨_,rfl,rfl⟩,λd s e=>by grind,λd=>by by_cases S:d=b.a.heap.size<;>simp[S],λd e s=>by grind⟩
    (λd e=>by grind)
  refine⟨(),.value (.pointer (f ⟨b.a.heap.size,0,p⟩)),_,.pointer (f ⟨b.a.heap.size,0,p⟩),?_,.inl a,⟨λbY B=>?_,⟨.pointer (f ⟨b.a.heap.size,0,p⟩),[b.a.heap.size]⟩,?_,a,a⟩,t,w,?_⟩
  · simp[ac,j,K,cI,C,c7,d_];rfl
  · rw[hr (bE _)]at B;simp at B;subst B;rfl
  · show(b.t++_)[c l]?=_
    rw[<-h.len,hr (bE _)];simp
  · exact yg (du.of_eq E (.R (mD ad T))) (by simp[ac,j,K])
def bZ.kh{k}(e:look F k=cM aa):∀b a,bZ D l b F a->bd l b->a.eval (.tmp k)=aa:=λb a d _=>by have:=d.aK k;rw[e]at this;exact Rd.bp this
inductive su (V:Array MapEntry) (dz:Array Nat)
  |over (t:∀aj∈V.toList,aj.born∈dz)
  |R (aj:MapEntry) (t:aj∈V.toList) (jn:aj.born∉dz)
def su.da{V}{dz}:su V dz->y
  |.over _=>.ae [.R (.c (.bool v))]
  |.R a _ _=>.ae [.R (.c (.bool m)),.R (.v a.key),.R (.v a.val)]
def su.a7{V}{dz}:su V dz->Array Nat
  |.over _=>dz
  |.R a _ _=>dz.push a.born
def g.next{k X}{ty}(ck:s.op=.next (.tmp k) v)(aD:s.type=ty)(ab:s.dst=f X)(ag:s.guard=p)(K:fg D s.dst=m){qN kn:Nat}(M:look F k=.p (.R (.aV kn))){bb r}{dz}(U:l[kn]?=f (.J (k5 bb r dz))){H:Z->(Nat->Option Obj)->Prop}{V}(aG:l[qN]?=f (.J H))(aj:ut H bb V r)(aa:MapKept.Stamped V r)(az:∀b∈V.toList,dY b.key=m/\dY b.val=m)(ao:∀t:su V dz,g q D be (.aj all bs::av) .normal ((X,t.da)::F) (l.set kn (.J (k5 bb r t.a7)))):g q D be (.aj all (s::bs)::av) .normal F l:=by
  refine g.cJ (ι:=su V dz) (λt=>t.da) (λt=>l.set kn (.J (k5 bb r t.a7))) ag K ?_ λt=>by rw[ab];exact ao t
  intro h ak ah o;obtain⟨e,i,x,G⟩:=o.hi U;have u:ak.eval (.tmp k)=.pointer (f ⟨e,0,p⟩):=by
    have:=ah.aK k;rw[M]at this;obtain⟨_,L,T,u,_⟩:=(show cx _ h _ (.aV kn)from this)
    rw[i]at T;cases T;exact u
  obtain⟨W,L,T,aC⟩:=o.ej aG aj;have aw:=ca i;have ax:=(G _ i e).2 a;have Y:du h ((Instr.next (.pointer (f ⟨e,0,p⟩)) v s.type).events P h.a #[]):=by
    intro b A;obtain⟨au,S|S⟩:=WT h.a s.type e bb r r dz V r x W aa.1 (bE _) b A
    · obtain⟨O,wr,ae⟩:=b;grind[mD]
    · obtain⟨O,wr,ae⟩:=b;grind[mD]
  have aq:l.set kn (.J (k5 bb r dz))=l:=m4;rcases run_next_at (P:=P) h.a s.type e bb r r dz V r x W aa.1 (bE _)with⟨R,B⟩|⟨b,A,w1,Q,B⟩
  · have ar:∀b∈V.toList,b.born∈dz:=by intro b A;have:=Array.eq_empty_of_size_eq_zero R;unfold leftOf at this;grind[Array.filter_eq_empty_iff]
    refine⟨.over ar,.value (.tuple #[.bool v]),h,_,?_,.inl a,⟨[.bool v],a,Rd.bool,C⟩,?_,?_,?_⟩
    · simp[ac,ck,u,cI,B,c7,d_]
    · show bd (l.set kn (.J (k5 bb r dz))) h
      grind
    · show cN l h (l.set kn (.J (k5 bb r dz))) h
      rw[aq];exact .refl _ _
    · exact yg Y Oc
  · have J:b∈V.toList/\b.born∉dz:=by simp[leftOf]at A;grind
    have z:w1.heap=h.a.heap/\w1.os=h.a.os/\w1.tape=h.a.tape/\w1.output=h.a.output:=by rcases Q with rfl|rfl<;>exact⟨rfl,rfl,rfl,rfl⟩
    have aA:=o.lt _ aw e ax;have y:e<w1.heap.size:=N;obtain⟨ai,ad⟩:=o.cf (d:=kn) (j7:=k5 bb r (dz.push b.born)) (cp:=⟨.pointer (f ⟨e,0,p⟩),((h.t[kn]?).map (·.al)).getD []⟩) (bj:=setBlock w1 e (.mapIter (f bb) r (dz.push b.born) r)) U i rfl
      (by simp[setBlock,z.1]) (λn j an=>by
        have aP:e≠n:=N;simp[setBlock]
        grind) (λn j=>.inl j)
      ⟨λn=>if n=e then f (.mapIter (f bb) r (dz.push b.born) r)else p,⟨e,rfl,rfl⟩,λn s j=>by
        by_cases w:n=e
        · subst w
          simp[dH]at j;cases j;simp[setBlock];grind
        grind,λn=>by
        rw[G _ i n]
        by_cases w:n=e<;>simp[w]⟩ (by simp[setBlock,z.2.1]) (by simp[setBlock,z.2.2.1]) (by simp[setBlock,z.2.2.2])
    obtain⟨E,I⟩:=az b J.1;refine⟨.R b J.1 J.2,.value (.tuple #[.bool m,b.key,b.val]),_,_,?_,.inl a,⟨[.bool m,b.key,b.val],a,Rd.bool,Rd.val E,Rd.val I,C⟩,ai,ad,?_⟩
    · simp[ac,ck,u,cI,B,c7,d_]
    · exact yg Y Oc
def g.entry{k u}(i:s.op=.entry (.tmp k))(O:s.dst=f u)(R:s.guard=p)(z:fg D s.dst=m){qN kn:Nat}(Q:look F k=.p (.R (.aV kn))){bb r:Nat}{dz:Array Nat}{aj:MapEntry}(E:l[kn]?=f (.J (k5 bb r (dz.push aj.born)))){V:Array MapEntry}(aG:l[qN]?=f (.J H))(J:ut H bb V r)(t:MapKept.Stamped V r)(w:aj∈V.toList){X:y}(I:∀e:a5,bx l e (.tuple #[aj.key,aj.val]) X)(S:g q D be (.aj all bs::av) .normal ((u,X)::F) l):g q D be (.aj all (s::bs)::av) .normal F l:=by
  refine g.cJ (ι:=Unit) (λ_=>X) (λ_=>l) R z ?_ λ_=>by exact hu
  intro e A C d;obtain⟨j,b,h,M⟩:=d.hi E;have n:A.eval (.tmp k)=.pointer (f ⟨j,0,p⟩):=by
    have:=C.aK k;rw[Q]at this;obtain⟨_,L,o,n,_⟩:=(show cx _ e _ (.aV kn)from this)
    rw[b]at o;cases o;exact n
  obtain⟨x,L,o,B⟩:=d.ej aG J;have K:=run_entry_at (P:=P) e.a j bb r dz V r aj h x w t.2.1;have N:=UT (P:=P) e.a j bb r dz V r aj h x w t.2.1;refine⟨(),.value (.tuple #[aj.key,aj.val]),e,_,?_,.inl a,I e,d,.refl _ _,?_⟩
  · simp[ac,i,n,cI,K,c7,d_]
  · exact yg (du.of_eq N (.fp (mD (ca b) ((M _ b j).2 a)) (mD o B))) (by simp[ac,i,n])
end
end
inductive fl where
 |nil (w:Option Addr)
 |row (i cap:Nat)
def cY(b:fl)(g:Nat):Z:=match b with
 |.nil d=>.slice d 0 0
 |.row e a=>.slice (f ⟨e,0,p⟩) g a
def tQ(bP)(j):dY (cY bP j)=m:=by cases bP<;>rfl
def E5(a:n Z):Nat->n O:=λb=>[.val (a.getD b K)]
section
variable {q:ag P}
def b2.e4{aP}{dF:ι->bI}{ao:ι->n an}(I:∀e g,bZ D l e F g->bd l e->∃(b:ι)(a:a5),a.a=e.a/\bZ D (ao b) a (dF b) g/\bd (ao b) a/\cN l e (ao b) a)(K:∀b,b2 q D r aP (dF b) (ao b)):b2 q D r aP F l:=by intro e g O d B u k A t s;obtain⟨b,a,N,E,y,x⟩:=I e g O d;have z:=x.too' d;refine .aU (.of d y N z) ?_;exact K b a g E y B u k A t λC J i w j Q M o h=>s C J i w j Q M o (z.trans h)
def g.gN(d){y:an}(h:ι->an)(t:l[d]?=f y)(s:∀i L,ey l i y L->∃j,(∀ao,ey ao i (h j) L)/\fJ y L (h j) L)(E:∀j,g q D be (.code r::av) .normal F (l.set d (h j))):g q D be (.code r::av) .normal F l:=by
 refine b2.e4 (dF:=λ_=>F) (ao:=λj=>l.set d (h j)) (λi M z bQ=>?_) E;have O:d<c l:=(cO.1 t).1;have I:d<c i.t:=h0;have A:=bG I;generalize i.t[d]=L at A;obtain⟨j,J,Q⟩:=s i L (bQ.box d _ L t A);have w:fm l i (l.set d (h j)) i:=by
  refine⟨λ_ _ _ s=>s,λk n o b e=>?_⟩;by_cases x:d=k
  .subst x;rw[t]at b;cases b;rw[A]at e;cases e;simp_all
  exact⟨n,o,by grind,e,.refl _ _⟩
 have u:cN l i (l.set d (h j)) i:=
  ⟨bE _,λ_ _ _=>rfl,λ_ _ _ s=>s,λ_ _ _ _=>rfl,λL s N C=>.inr ⟨L,s,C⟩,w.box,rfl,rfl,rfl,rfl⟩
 refine⟨j,i,a,⟨z.size,z.defers.imp λ_ B=>B.mono u.ext,λK=>(z.aK K).mono u.ext bQ.len⟩,⟨bQ.mem,by simp[bQ.len],?_,bQ.a3,bQ.lt,bQ.own⟩,u⟩;intro k n o b e;by_cases x:d=k
 .subst x;simp_all
 rw[j_ x]at b;exact(bQ.box k n o b e).ck w bQ.len λ_ _=>⟨a,λ_=>rfl⟩
def g.gB(d)(b:ι->Z->(Nat->Option Obj)->Prop)(h:l[d]?=f (.J H))(o:∀j a,H j a->∃e,b e j a)(i:∀e,g q D be (.code r::av) .normal F (l.set d (.J (b e)))):g q D be (.code r::av) .normal F l:=
 g.gN d (λe=>.J (b e)) h (λs L ⟨a,k,n⟩=>let ⟨e,bp⟩:=o _ _ k;⟨e,λ_=>⟨a,bp,n⟩,rfl⟩) i
def g.gO(d){W h}(a:Nat->n O)(x:l[d]?=f (.q W h j V))(J:∀b,b<j->c (a b)=h)(M:∀z b,b<j->∀(i:Nat) o,(a b)[i]?=f o->∃r,(V b)[i]?=f r/\∀k,Rd z k r->Rd z k o)(y:g q D be (.code r::av) .normal F (l.set d (.q W h j a))):g q D be (.code r::av) .normal F l:=by
 refine g.gN (ι:=Unit) d (λ_=>.q W h j a) x (λU L u=>⟨(),λC=>?_,λ_=>rfl,bE _⟩) λ_=>y;rcases u with T|⟨E,Z,A,X,s,t,Y,N,S,B,Q⟩
 .exact .inl T
 refine .inr ⟨E,Z,A,X,s,t,Y,N,S,⟨B.len,J,λb e i o w=>?_⟩,Q⟩;obtain⟨r,aa,R⟩:=M U.E b e i o w;obtain⟨k,K,I⟩:=B.rd b e i r aa;exact⟨k,K,R k I⟩
end
def nw:O->Bool
 |.int _ _|.bool _|.T _|.bb|.br|.dd|.val _=>m
 |_=>v
def nv:Q->Bool
 |.c a=>nw a
 |.any=>m
 |_=>v
def yz:n Q->Bool
 |[]=>m
 |a::b=>match nv a with|true=>yz b|false=>v
def vp:E1->Bool
 |.R b=>nv b
 |.agg a=>yz a
def yy:n E1->Bool
 |[]=>m
 |a::b=>match vp a with|true=>yy b|false=>v
def yx:y->Bool
 |.p b=>vp b
 |.ae a=>yy a
 |.any=>m
section
theorem vo{a}{r}(b:nw r=m)(d:Rd bD aa r):Rd a aa r:=by
 cases d<;>first|(simp[nw]at b;done)|skip
 case int cS=>exact .int cS
 case bool=>exact .bool
 case T cS dq=>exact .T cS dq
 case bb=>exact .bb
 case br=>exact .br
 case dd=>exact .dd
 case val cS=>exact .val cS
def JX{a}(d:nv a=m)(e:cx l b aa a):cx ao az aa a:=by
 cases a with
 |c g=>exact vo d e
 |any=>exact e
 |_=>simp[nv]at d
def JZ:∀{A:n Z}{a:n Q},yz a=m->bO l b A a->bO ao az A a
 |[],[],_,_=>trivial
 |[],_::_,_,d=>d.elim
 |_::_,[],_,d=>d.elim
 |i::A,h::a,e,d=>by
  simp[yz]at e;cases g:nv h with
  |false=>grind
  |true=>simp[g]at e;exact⟨JX g d.1,JZ e d.2⟩
def Db{k}(a:vp k=m)(d:ez l b aa k):ez ao az aa k:=by
 cases k with
 |R i=>exact JX a d
 |agg h=>obtain⟨A,e,g⟩:=d;exact⟨A,e,JZ a g⟩
def JY:∀{A:n Z}{a:n E1},yy a=m->eV l b A a->eV ao az A a
 |[],[],_,_=>trivial
 |[],_::_,_,d=>d.elim
 |_::_,[],_,d=>d.elim
 |i::A,h::a,e,d=>by
  simp[yy]at e;cases g:vp h with
  |false=>grind
  |true=>simp[g]at e;exact⟨Db g d.1,JY e d.2⟩
def Y8{a}(d:yx a=m)(e:bx l b aa a):bx ao az aa a:=by
 cases a with
 |p j=>exact Db d e
 |ae i=>obtain⟨A,g,h⟩:=e;exact⟨A,g,JY d h⟩
 |any=>trivial
end
def qR:n an->Bool
 |[]=>m
 |.J _::a=>qR a
 |.M::a=>qR a
 |_=>v
def La:∀{e:n an},qR e=m->∀a∈e,(∃H,a=.J H)∨a=.M
 |[],_,a,aG=>by grind
 |b::g,h,a,aG=>by
  have d:((∃H,b=.J H)∨b=.M)/\qR g=m:=by cases b<;>simp_all[qR]
  rcases fr.1 aG with rfl|aG
  .exact d.1
  exact La d.2 a aG
def AD(i:n an)(j:Nat)(o:Z)(k l:Nat)(h:Nat->n O):Prop:=
 ∀e,bd i e->∃L d,e.t[j]?=f L/\(∀a b g,e.E a b=f g->d a b=f g)/\(∀a,a∉L.al->∀b,d a b=e.E a b)/\(∀a b g,d a b=f g->e.a.cell? ⟨a,b,p⟩=f g) /\
  (∀a∈L.al,∀b,e.E a b=p)/\Rd d o (.C v k l h)
section
variable {q:ag P}
def b6.hY{l}{b}{i}:∀{A:n Z}{a:n y}{S:Nat}{e:Z},b6 l b A a->A[S]?=f e->bx l b e i->b6 l b A (a.set S i)
 |[],[],_,_,_,d,_=>by grind
 |[],_::_,_,_,d,_,_=>d.elim
 |_::_,[],_,_,d,_,_=>d.elim
 |k::A,j::a,0,e,d,h,g=>by simp at h;subst h;exact⟨g,d.2⟩
 |k::A,j::a,S+1,e,d,h,g=>⟨d.1,b6.hY (S:=S) d.2 N g⟩
def p1(j:n an)(k g:n y):Prop:=
 ∀e A,bd j e->b6 j e A k->∃(i:Nat->Prop) (d:Mem),(∀a,i a->∃L∈e.t,a∈L.al)/\(∀a b h,e.E a b=f h->d a b=f h)/\(∀a,¬i a->∀b,d a b=e.E a b) /\
  (∀a b h,d a b=f h->e.a.cell? ⟨a,b,p⟩=f h)/\(∀a,i a->∀b,e.E a b=p)/\b6 j {e with E:=d} A g
def p1.refl(l)(bg):p1 l bg bg:=λe A b d=>⟨λ_=>False,e.E,λ_ a=>a.elim,λ_ _ _ a=>a,λ_ _ _=>rfl,b.mem,λ_ a=>a.elim,d⟩
def p1.step{bg e}(I:p1 l bg e)(n X){r}{h}(M:e[n]?=f (cM r))(x:AD l X r h j V):p1 l bg (e.set n (aw (.C v h j V))):=by
 classical
 intro q A i y;obtain⟨t,d,aa,R,U,G,Q,B⟩:=I q A i y;obtain⟨L,k,C,H,O,T,W,S⟩:=x q i;have o:∀a b g,d a b=f g->(d a b).or (k a b)=f g:=λa b g s=>by grind
 have w:∀a b g,k a b=f g->(d a b).or (k a b)=f g:=λa b g s=>by
  cases D:d a b with
  |none=>grind
  |some z=>
   grind
 refine⟨λa=>t a∨a∈L.al,λa b=>(d a b).or (k a b),N,λa b g s=>o a b g (R a b g s),N,?_,?_,?_⟩
 .intro a b g s;cases D:d a b with
  |none=>grind
  |some z=>grind
 .grind
 have u:fm l {q with E:=d} l {q with E:=λa b=>(d a b).or (k a b)}:=⟨o,λY t L aG C=>⟨t,L,aG,C,.refl _ _⟩⟩
 have K:=B.mono u i.len;obtain⟨Z,F⟩:=b6.get B;have E:n<c A:=N;have J:A[n]?=f r:=by have:=F n;rw[M,bG E]at this;have:=Rd.bp (show Rd d A[n] (.val r)from this);grind
 exact K.hY J (show bx l {q with E:=λa b=>(d a b).or (k a b)} r (aw (.C v h j V))from Rd.mono w S)
end
def cm(j:aq)(i:Nat)(e:fl)(g:Nat)(b:n Z):Z->(Nat->Option Obj)->Prop:=λo d=>o=.nilFunc/\(∀q∈b,dY q=m)/\c b=g*i/\match e with
 |.nil _=>g=0/\d=λ_=>p
 |.row k a=>g<=a/\a<=9223372036854775807/\∃h,c (b++h)=a*i/\d=λl=>if l=k then f (.cells (b++h).toArray j (0,0))else p
def mc(b:Nat)(a:n Z):Nat->n O:=λd=>((a.drop (d*b)).take b).map .val
def NC{h}{ah}(a:c ah=j*h)(bp:e<j):c (mc h ah e)=h:=by have:e*h+h<=j*h:=F0;simp[mc,a];omega
def NB{h}{ah}{r}(b:(mc h ah e)[u]?=f r):∃a,ah[e*h+u]?=f a/\r=.val a:=by simp[mc,ng,iq,qb]at b;grind
def cm.lookup{h cap}{ah}(d:cm W h (.row i cap) j ah aa lc):∃a,c (ah++a)=cap*h/\lc i=f (.cells (ah++a).toArray W (0,0))/\∀b,(lc b).isSome=m↔b=i:=by obtain⟨_,_,_,_,_,a,e,g⟩:=d;grind
def Rd.ki{cap h}{ah}(q:∀s∈ah,dY s=m)(d:c ah=j*h)(g:j<=cap)(n:cap<=9223372036854775807)(u:∀l,bD i l=ah[l]?):Rd bD (.slice (f ⟨i,0,p⟩) j cap) (.C v h j (mc h ah)):=by refine Rd.eJ (bD:=bD) (h:=h) (j:=j) (V:=mc h ah) (A:=ah) (w:=f ⟨i,0,p⟩) (i:=i) (off:=0) (cap:=cap) (o:=v) ⟨d,λr b=>NC d b,λr b y t e=>?_⟩ bm g n E (λz k x=>by grind);obtain⟨k,a,rfl⟩:=NB e;exact⟨k,a,.val (q k (ca a))⟩
section
variable {q:ag P}
def cm.fM{h d}{bP}{ah}(e:l[d]?=f (.J (cm W h bP j ah)))(V:Nat->n O)(C:∀a,a<j->c (V a)=h/\∀J b g D,(V a)[b]?=f g->ah[a*h+b]?=f D->Rd J D g):AD l d (cY bP j) h j V:=by
 intro q bQ;have ab:=(cO.1 e).1;have X:d<c q.t:=h0;have r:=bG X;generalize q.t[d]=L at r;obtain⟨M,H,R,F,u⟩:=bQ.box d _ L e r;cases bP with
 |nil K=>
  obtain⟨_,_,_,rfl,_⟩:=H;exact⟨L,q.E,r,λ_ _ _ S=>S,λ_ _ _=>rfl,bQ.mem,u,Rd.dL⟩
 |row i cap=>
  obtain⟨ai,ae,Z,aa⟩:=H.lookup;obtain⟨ag,G,z,U,Q,_⟩:=H;have I:=(F i).2 N
  have Y:=R i _ Z;obtain⟨s,t⟩:=bQ.fz (i:=i) (A:=ah) (u i I) (λk ao T=>by
   simp[aM,Y]
   grind)
  refine⟨L,λy k=>if y=i then ah[k]? else q.E y k,r,t,λy aP k=>bl N,s.mem,u,?_⟩;refine Rd.eJ (h:=h) (j:=j) (V:=V) (A:=ah) (w:=f ⟨i,0,p⟩) (i:=i) (off:=0) (cap:=cap) (o:=v) ⟨z,λa bp=>(C a bp).1,λa bp b g x=>?_⟩ bm U Q E (λak an aj=>by grind);have ad:b<h:=N;have B:a*h+b<c ah:=by rw[z];have:a*h+h<=j*h:=F0;omega
  exact⟨ah[a*h+b],bG B,(C a bp).2 _ b g _ x (bG B)⟩
def eC.fx{h}(C:j6 P s k X W a4)(aa:a4.size=h){bP}{ah}(S:bF F k=cM (cY bP j))(Y:l[d]?=f (.J (cm W h bP j ah))){se}{dK:Nat->n O}(bn:bF F X=aw (.C se h 1 dK)){hZ}(bH:c hZ=h)(bu:∀bD g (r:Nat) bq,(dK 0)[r]?=f bq->Rd bD g bq->hZ[r]?=f g/\dY g=m)(u:(j+1)*a4.bytes<=140737488355328):
  eC P D s F l (λaP:fl=>cM (cY aP (j+1))) λaP=>l.set d (.J (cm W h aP (j+1) (ah++hZ))):=by
 intro b aA aJ bQ;obtain⟨bV,t2,aW,cd,Z,w,y,a1,G⟩:=C.op;have bh:=(cO.1 Y).1;have aq:d<c b.t:=h0;have M:=bG aq;generalize b.t[d]=L at M;obtain⟨bO,az,bL,aH,aD⟩:=bQ.box d _ L Y M;have a9:=ca M;have aj:=eO aJ k;rw[S]at aj;have aj:=Rd.bp aj;have R:=eO aJ X;rw[bn]at R;have R:=b8 R;have bM:=az.2.1;have ba:=az.2.2.1;have bS:∀i,b.a.heap.size<=i->∀s,b.E i s=p:=λi u s=>by
  cases bk:b.E i s with
  |none=>rfl
  |some g=>have:=bQ.block bk;omega
 have mk:∀o z cap,cY bP j=.slice z j cap->cap<j+1->bd (l.map λ_=>.M) {b with E:=o}->(∀e s g,b.E e s=f g->o e s=f g) ->
   Rd o (.slice z j cap) (.C v h j (mc h ah))->(∀{I},du {b with E:=o} I->du b I) ->
   ∃aW av ab g,(ac aA.eval s).run P b.a=.ok av ab.a/\(av=.value g∨(av=.skip/\g=K))/\bx (l.set d (.J (cm W h aW (j+1) (ah++hZ)))) ab g (cM (cY aW (j+1)))/\bd (l.set d (.J (cm W h aW (j+1) (ah++hZ)))) ab/\cN l b (l.set d (.J (cm W h aW (j+1) (ah++hZ)))) ab/\du b ((ac aA.eval s).events P b.a #[]):=by
  intro o z cap aO q ai aE aF ad;have a2:Rd ({b with E:=o}:a5).E (aA.eval X) (.C se a4.size 1 dK):=by rw[aa];exact R.mono aE
  have bp:Rd ({b with E:=o}:a5).E (.slice z j cap) (.C v a4.size j (mc h ah)):=N;obtain⟨A,t,bo,Q,V,f3,f4,f5⟩:=v5 (P:=P) (b:={b with E:=o}) (ty:=s.type) w y a1 G C.elem ai bp a2 q u C.bytes;have f6:=vb (P:=P) (b:={b with E:=o}) (ty:=s.type) w y a1 G C.elem ai bp a2 q u C.bytes;rw[aa]at Q f4;have bC:=Q.len;have bt:c ah+h=(j+1)*h:=N;have aL:0<h:=by have:=C.size;omega
  have aG:∀r,r<h->∃g,A[j*h+r]?=f g/\hZ[r]?=f g/\dY g=m:=λr bg=>by
   have aS:=Q.bJ j x;have aV:cf j (mc h ah) dK j=dK 0:=by simp[cf]
   rw[aV]at aS;obtain⟨g,aZ,a0⟩:=Q.rd j x r ((dK 0)[r]'x) N;grind
  have aR:A=ah++hZ:=by
   apply qg;intro T;by_cases br:T<c ah
   .have w:T / h<j:=sy N;have bz:=uF T h;have aU:=NC (h:=h) ba w;have bs:cf j (mc h ah) dK (T / h)=mc h ah (T / h):=by simp[cf,w]
    have aK:T % h<c (mc h ah (T / h)):=by rw[aU];exact qc _ aL
    obtain⟨g,aZ,a0⟩:=Q.rd (T / h) x (T % h) ((mc h ah (T / h))[T % h]) N;obtain⟨bW,bT,bU⟩:=NB (bG aK);grind[Rd.bp]
   grind
  subst aR;have ao:∀k∈hZ,dY k=m:=λk S=>by grind[List.getElem_of_mem]
  let bj:au:=b.a.drew.alloc (.cells (ah++hZ++t).toArray W);have bl:bj.heap[b.a.heap.size]?=f (.cells (ah++hZ++t).toArray W (0,0)):=lZ b.a.drew _;have bB:bj.heap.size=b.a.heap.size+1:=NU;obtain⟨ax,a8⟩:=bQ.cf (d:=d) (j7:=cm W h (.row b.a.heap.size bo) (j+1) (ah++hZ)) (cp:=⟨L.v,[b.a.heap.size]⟩) (bj:=bj) Y M rfl x
   (λi u _=>iR b.a.drew _ u) (λi u=>by grind)
   ⟨λe=>if e=b.a.heap.size then f (.cells (ah++hZ++t).toArray W (0,0))else p,⟨az.1,λk S=>by grind,by grind,V,f3,t,by omega,rfl⟩,λi s u=>by grind,λi=>by by_cases br:i=b.a.heap.size<;>simp[br]⟩ a a a
  refine⟨.row b.a.heap.size bo,.value (.slice (f ⟨b.a.heap.size,0,p⟩) (j+1) bo),_,_,?_,.inl a,Rd.val a,ax,a8,?_⟩
  .rw[lj Z,aj,aO];simp[cI,d_];exact hu
  grind[lj,jm]
 cases bP with
 |nil z=>
  obtain⟨_,_,_,rfl,_⟩:=az;refine mk b.E z 0 a E (by have:=bQ.eb;omega) (λ_ _ _ C=>C) Rd.dL (λC=>C)
 |row i cap=>
  obtain⟨t,bJ,an,bc⟩:=az.lookup;obtain⟨aQ,_,_,q,ag,_⟩:=az;have H:=(aH i).2 N;have a6:=bL i _ an;have ae:=aD i H;have bb:=bQ.lt L a9 i H;have aI:∀s g,ah[s]?=f g->b.a.cell? ⟨i,s,p⟩=f g:=by intro s g Z;simp[aM,a6];grind
  obtain⟨aC,ak⟩:=bQ.fz (i:=i) (A:=ah) ae aI;have ad:∀{I:Array aT},du {b with E:=λe s=>if e=i then ah[s]? else b.E e s} I->du b I:=λbf=>
   bf.gH (i:=i) a9 H ak λe s g aj=>by grind
  have aF:=Rd.ki (bD:=λe s=>if e=i then ah[s]? else b.E e s) (i:=i) (cap:=cap) (ah:=ah) bM ba q ag (λs=>by simp);by_cases a3:j+1<=cap
  .have a2:Rd ({b with E:=λe s=>if e=i then ah[s]? else b.E e s}:a5).E (aA.eval X) (.C se a4.size 1 dK):=by rw[aa];exact R.mono ak
   obtain⟨B,Q,V⟩:=Ei (P:=P) (b:={b with E:=λe s=>if e=i then ah[s]? else b.E e s}) (ty:=s.type) (j:=j) (i:=i) (cap:=cap) w y a1 G C.elem aC a6 N a2 a3;have f6:=Cu (P:=P) (b:=b) (ty:=s.type) (j:=j) (i:=i) (cap:=cap) w y a1 G C.elem bQ a6 N (k:=aA.eval X) (se:=se) (dK:=dK) N a3 a9 H (λs _=>ae s);rw[aa]at Q V;have aN:c B=h:=by have:=Q.len;omega
   have bE:=Q.bJ 0 x;have aG:∀r,r<h->∃g,B[r]?=f g/\hZ[r]?=f g/\dY g=m:=λr bg=>by obtain⟨g,aZ,a0⟩:=Q.rd 0 x r ((dK 0)[r]'x) (bG x);grind
   have bK:B=hZ:=m4;subst bK;have ao:∀k∈B,dY k=m:=λk S=>by grind[List.getElem_of_mem]
   have bw:j*h+h<=cap*h:=by rw[<-pa];exact gX _ a3
   have bI:h<=c t:=N;have bN:((ah++t).take (j*h)++B++(ah++t).drop (j*h+c B))=ah++B++t.drop h:=by rw[<-ba,aN];simp
   rw[bN]at V;have bm:(b.a.setRow i (ah++B++t.drop h).toArray).heap[i]?=f (.cells (ah++B++t.drop h).toArray W (0,0)):=setRow_heap b.a i _ _ W _ a6;have ar:∀e,e≠i->(b.a.setRow i (ah++B++t.drop h).toArray).heap[e]?=b.a.heap[e]?:=λe aX=>setRow_other b.a i e _ aX;obtain⟨ax,a8⟩:=bQ.cf (d:=d) (j7:=cm W h (.row i cap) (j+1) (ah++B)) (cp:=L) (bj:=b.a.setRow i (ah++B++t.drop h).toArray) Y M rfl E
    (λe aX bR=>ar e N) (λe aX=>.inl aX)
    ⟨λe=>if e=i then f (.cells (ah++B++t.drop h).toArray W (0,0))else p,⟨aQ,λk S=>by grind,by grind,a3,ag,t.drop h,by grind,rfl⟩,λe s aX=>by grind,λe=>by grind⟩ a a a
   refine⟨.row i cap,.value (.slice (f ⟨i,0,p⟩) (j+1) cap),_,_,?_,.inl a,Rd.val a,ax,a8,?_⟩
   .rw[lj Z,aj];simp only[cI,d_,cY];exact hu
   rw[lj Z,aj];exact jm f6
  exact mk _ (f ⟨i,0,p⟩) cap a x aC ak aF ad
def g.fx{h}(C:j6 P s k X W a4)(I:a4.size=h){w}(B:s.dst=f w)(J:s.guard=p)(M:fg D s.dst=m){bP}{ah}(K:bF F k=cM (cY bP j))(i:l[d]?=f (.J (cm W h bP j ah))){r}{b:Nat->n O}(E:bF F X=aw (.C r h 1 b)){hZ}(z:c hZ=h)(A:∀y t (x:Nat) u,(b 0)[x]?=f u->Rd y t u->hZ[x]?=f t/\dY t=m)(e:(j+1)*a4.bytes<=140737488355328)(o:∀a:fl,g q D be (.aj all bs::av) .normal ((w,cM (cY a (j+1)))::F) (l.set d (.J (cm W h a (j+1) (ah++hZ))))):g q D be (.aj all (s::bs)::av) .normal F l:=
 g.cJ (ι:=fl) (λa=>cM (cY a (j+1))) (λa=>l.set d (.J (cm W h a (j+1) (ah++hZ)))) J M (.fx C I K i E z A e) λa=>by rw[B];exact o a
def g.jA(o)(W)(h){u}(J:look F o=aw (.C m u 0 V))(t:∀e:fl,g q D be (.code r::av) .normal ((o,cM (cY e 0))::F) (l++[.J (cm W h e 0 [])])):g q D be (.code r::av) .normal F l:=by
 refine b2.e4 (λy K i b=>?_) t;have x:=i.aK o;rw[J]at x;obtain⟨d,w,A,I,_,_,j,_,_⟩:=(b8 x).b3;have j:=j a;subst j;obtain⟨C,k⟩:=b.b2 (bY:=.J (cm W h (.nil d) 0 [])) (L:=⟨.nilFunc,[]⟩) (.refl _ _) rfl b ⟨λ_=>p,⟨rfl,by simp,by simp,rfl,rfl⟩,by simp,by simp,by simp⟩ E;refine⟨.nil d,{y with t:=y.t++[⟨.nilFunc,[]⟩]},rfl,⟨i.size,i.defers.imp λ_ n=>n.mono k.ext,λz=>?_⟩,C,k⟩;simp only[look];cases s:af o z with
 |false=>exact(i.aK z).mono k.ext b.len
 |true=>
  have B:=di s;subst B;show Rd _ _ _;rw[I];exact Rd.val a
def g.iF(o d){h}{bP}{ah}(s:Nat->n O)(ae:look F o=cM (cY bP j))(w:l[d]?=f (.J (cm W h bP j ah)))(Z:∀E,E<j->c (s E)=h/\∀X M r V,(s E)[M]?=f r->ah[E*h+M]?=f V->Rd X V r)(K:g q D be (.code r::av) .normal ((o,aw (.C v h j s))::F) (l.set d .M)):g q D be (.code r::av) .normal F l:=by
 refine g.aU (λz aj C e=>?_) K;obtain⟨L,t,T,R,N,ad,Q,ai⟩:=cm.fM w s Z z e;have Y:=(cO.1 w).1;have S:=C.aK o;rw[ae]at S;have y:=Rd.bp S;have B:fm l z (l.set d .M) {z with E:=t}:=by
  refine⟨R,λk bY cp b lW=>?_⟩;by_cases u:d=k
  .subst u;rw[w]at b;cases b;exact⟨.M,cp,by grind,lW,a⟩
  exact Fu
 have x:cN l z (l.set d .M) {z with E:=t}:=by refine⟨bE _,λ_ _ _=>rfl,R,λA _ J ab=>N A (J L (ca T)) ab,λL aa A i=>.inr ⟨L,aa,i⟩,B.box,rfl,rfl,rfl,rfl⟩
 refine⟨{z with E:=t},rfl,⟨C.size,C.defers.imp λ_ I=>I.mono x.ext,λU=>?_⟩,⟨ad,by simp[e.len],?_,e.a3,e.lt,e.own⟩,x⟩
 .simp only[look];cases i:af o U with
  |false=>exact(C.aK U).mono x.ext e.len
  |true=>
   have u:=di i;subst u;show Rd _ _ _;grind
 intro k bY cp b lW;by_cases u:d=k
 .subst u;rw[io Y]at b;cases b;trivial
 rw[j_ u]at b;exact(e.box k bY cp b lW).ck B e.len λA i=>⟨a,N A λag=>u (e.a3 d k L cp T lW A ag i)⟩
end
structure ek(h j:Nat)(V:Nat->n O)(ah:n Z):Prop where
 len:c ah=j*h
 et:∀e,e<j->c (V e)=h
 bY:∀e,e<j->∀u r,(V e)[u]?=f r->∃k,ah[e*h+u]?=f k/\∀bD,Rd bD k r
def ek.rd{h}{ah}(k:ek h j V ah):∀a,a<j->c (V a)=h/\∀bD e d i,(V a)[e]?=f d->ah[a*h+e]?=f i->Rd bD i d:=λa b=>
 ⟨k.et a b,λbD e d i g o=>by obtain⟨q,l,n⟩:=k.bY a b e d g;grind⟩
def Nd(b:Z):Q->Q
 |.w 0 _ _ _=>.v b
 |a=>a
def EY(d:Z):E1->E1
 |.R a=>.R (Nd d a)
 |b=>b
def EZ(a:Z):n E1->n E1
 |[]=>[]
 |b::d=>EY a b::EZ a d
def Nf(b:Z):y->y
 |.p d=>.p (EY b d)
 |.ae a=>.ae (EZ b a)
 |.any=>.any
def r2(d:Nat):Q->Bool
 |.w 0 _ b _=>af b d
 |a=>nv a
def vL(d:Nat):E1->Bool
 |.R a=>r2 d a
 |b=>vp b
def vM(a:Nat):n E1->Bool
 |[]=>m
 |b::d=>match vL a b with|true=>vM a d|false=>v
def DP(b:Nat):y->Bool
 |.p d=>vL b d
 |.ae a=>vM b a
 |.any=>m
section
variable {h:Nat}{L:Loc}
def aeW(t:b.t[0]?=f L){e}(d:r2 j e=m)(i:cx [an.w W h j V] b aa e):cx ao az aa (Nd L.v e):=by
 cases e with
 |c x=>exact vo d i
 |any=>exact i
 |w o u w l=>
  cases o with
  |zero=>
   obtain⟨s,_,g⟩:=i;have g:=g W h j V a;have r:=di d;obtain⟨q,n,k⟩:=g.2 r.symm;rw[t]at n;cases n;show Rd _ _ _;rw[k];exact .val (k▸s.cell)
  |succ o=>simp[r2,nv]at d
 |ptr=>simp[r2,nv]at d
 |aV=>simp[r2,nv]at d
 |S=>simp[r2,nv]at d
def Nh(g:b.t[0]?=f L){k}(d:vL j k=m)(e:ez [an.w W h j V] b aa k):ez ao az aa (EY L.v k):=by
 cases k with
 |R i=>exact aeW g d e
 |agg a=>exact Db (k:=.agg a) d e
def Ni(g:b.t[0]?=f L):∀{A:n Z}{a:n E1},vM j a=m->eV [an.w W h j V] b A a->eV ao az A (EZ L.v a)
 |[],[],_,_=>trivial
 |[],_::_,_,d=>d.elim
 |_::_,[],_,d=>d.elim
 |l::A,k::a,e,d=>by
  simp[vM]at e;cases i:vL j k with
  |false=>grind
  |true=>simp[i]at e;exact⟨Nh g i d.1,Ni g e d.2⟩
def Ng(d:b.t[0]?=f L){a}(e:DP j a=m)(g:bx [an.w W h j V] b aa a):bx ao az aa (Nf L.v a):=by
 cases a with
 |p n=>exact Nh d e g
 |ae l=>obtain⟨A,i,k⟩:=g;exact⟨A,i,Ni d e k⟩
 |any=>trivial
end
def zF:n ResultVar->Bool
 |[]=>m
 |.tmp _::a=>zF a
 |.cell _ _::_=>v
def Nk{P}{w}:∀{rs:n ResultVar},zF rs=m->∃A,(∀a,(rs.mapM (ic w)).run P a=Result.ok A a)/\dC P (rs.mapM (ic w))
 |[],_=>⟨[],by simp,by rw[List.mapM_nil];exact .pure⟩
 |.tmp h::g,e=>by
  obtain⟨A,b,d⟩:=Nk (P:=P) (w:=w) (rs:=g) e;refine⟨w.tmps.getD h K::A,λa=>?_,?_⟩
  .simp only[pc,cI,ic,d_,c7,b]
  rw[pc];exact .bind .pure λ_=>.bind d λ_=>.pure
def mj.tmp{j}{fn}{hx}(r:mj P j hx aa b)(F:P.funcs[j]?=f fn)(C:zF fn.results.toList=m)(n:∀o s t,b.E o s=f t->b.a.cell? ⟨o,s,p⟩=f t):mj P j hx aa az:=by
 obtain⟨k,l,D,z,d,B,u⟩:=r;have g:d=fn:=N;subst g;let w:Act:={tmps:=hx.tmps,defers:=[]}
 obtain⟨A,k1,x⟩:=Nk (P:=P) (w:=w) C;have h:∀a,(d.results.mapM (ic w)).run P a=Result.ok A.toArray a:=λa=>by grind[Array.mapM_eq_mapM_toList,Sem.run_map,Go.Result.andThen_ok]
 have e:∀a,(results d hx.tmps).run P a=.ok (if r:A.toArray.size=1 then A.toArray[0]else .tuple A.toArray) a:=λa=>by unfold results;rw[cI];refine(eN (λE=>Result.andThen E _) (h a)).trans ?_;simp
 have i:dC P (results d hx.tmps):=by
  unfold results;have g:dC P (d.results.mapM (ic w)):=by rw[xh];exact .map x
  exact .bind g λ_=>.pure
 have q:=(u b.a n).1;rw[e]at q;cases q;exact⟨k,l,D,z,d,B,λa _=>⟨e a,λg y=>by rw[i a #[]]at y;grind⟩⟩
def Y.thaw{aN:ag P}[aN.b8]{aT}{args}{res}{h}(B:Y aN aT args [] res [.w W h j V]){fn}(ak:P.funcs[aT]?=f fn)(ax:zF fn.results.toList=m)(bb:DP j res=m)(aP:∀y,y<j->c (V y)=h/\∀aQ∈V y,nw aQ=m):
  bk (ι:={S:fl×n Z // ek h j V S.2}) aN aT args [] (λS=>Nf (cY S.1.1 j) res) (λS=>[.J (cm W h S.1.1 j S.1.2)]):=by
 refine⟨B.1,λaC A a2 F bq aS ae=>B.2 aC A a2 F bq aS λX bj az au w b d=>?_⟩;have a8:aC.t=[]:=jF F.len;have aZ:c az.t=1:=b.len;obtain⟨L,ba⟩:∃L,az.t=[L]:=by
  match afU:az.t with
  |[L]=>grind
  |[]=>grind
  |_::_::_=>grind
 have aO:az.t[0]?=f L:=N;obtain⟨ah,ai⟩:=b.box 0 _ L rfl aO;rcases ai with⟨⟨bd,aw⟩,o⟩|⟨i,cap,cells,ad,Q,aj,bA⟩
 .subst aw;obtain⟨bc,cap,bm,a4,aV,bf,aA,_⟩:=o.b3;have G:cap=0:=aA a;subst G;let z:a5:={az with t:=[⟨.nilFunc,[]⟩]}
  have aW:eY az z:=⟨rfl,λ_ _ _ B=>B,λ_ _ _=>rfl,b.mem,λi D=>by grind⟩
  have aK:ek h 0 V []:=⟨by simp,λy r=>by omega,λy r=>by omega⟩
  refine .aU aW (ae ⟨(.nil bc,[]),aK⟩ X bj z (au.tmp ak ax b.mem) ?_ ?_ ?_)
  .have:=Ng (ao:=[an.J (cm W h (.nil bc) 0 [])]) (az:=z) aO bb w;rw[a4]at this;exact this
  .refine⟨b.mem,a,λK aL l aG e=>?_,?_,by grind,λi D=>⟨(b.own i D).1,by grind⟩⟩
   .cases K with
    |zero=>cases aG;cases e;exact⟨λ_=>p,⟨a,by simp,by simp,a,a⟩,by simp,by simp,by simp⟩
    |succ K=>grind
   grind
  refine⟨d.size,d.a6,d.mem,d.bG,λl e i D=>?_,λK aL l aG=>by grind,d.os,d.tape,d.output,d.own⟩;grind
 .subst ad;have a_:i∈(⟨.slice (f ⟨i,0,p⟩) j cap,[i]⟩:Loc).al:=E;have aI:aC.a.heap.size<=i:=by
   rcases d.bW _ N i a_ with aa|⟨bo,aa,_⟩
   .exact aa
   grind
  have aU:i<az.a.heap.size:=b.lt _ N i a_;obtain⟨bw,aR,C,br,bh,bp,_,ab,a0⟩:=ah.b3;cases br;have a':c C=j*h:=ab.len;have a6:∀u T,C[u]?=f T->cells[u]?=f T:=λu T J=>by obtain⟨bx,a9,aH,bu⟩:=a0 u T J;cases aH;have:=b.mem _ _ _ bu;simp[aM,Q]at this;simpa using this
  have bg:j*h<=c cells:=by rw[aj];exact gX _ bh
  have aJ:cells.take (j*h)=C:=m4;have a3:C++cells.drop (j*h)=cells:=F2;have aK:ek h j V C:=by refine⟨a',λy r=>(aP y r).1,λy r bz aQ I=>?_⟩;obtain⟨T,R,aE⟩:=ab.rd y r bz aQ I;grind[vo]
  have H:∀aF∈C,dY aF=m:=λaF a7=>by
   obtain⟨u,J,rfl⟩:=hq a7;have aX:0<h:=N;have r:u / h<j:=sy N;have bs:u / h*h+u % h=u:=uF u h;have I:u % h<c (V (u / h)):=by rw[(aP _ r).1];exact qc _ aX
   obtain⟨T,R,aE⟩:=aK.bY _ r _ _ (bG I);rw[bs,bG J]at R;cases R;exact(aE aC.E).cell
  have bn:∀g s k,aC.E g s=f k->g≠i:=λg s k av aH=>by have:=F.block av;omega
  let U:Mem:=λg s=>if g=i then p else az.E g s;let M:a5:={az with t:=[],own:=λaF=>az.own aF∨aF=i}
  let aD:a5:={M with E:=U}
  let z:a5:={az with t:=[⟨.nilFunc,[i]⟩],E:=U}
  have O:∀g s k,U g s=f k->az.E g s=f k:=λg s k q=>by grind
  have ar:eY az M:=⟨rfl,λ_ _ _ B=>B,λ_ _ _=>rfl,b.mem,λg t=>by
   rcases t with(t|t)|⟨l,e,_⟩
   .grind
   .exact .inr ⟨_,by rw[ba];simp;rfl,by grind⟩
   grind⟩
  have aq:n2 M aD:=⟨rfl,rfl,rfl,O,λg s k q=>by grind⟩
  have bt:eY aD z:=⟨rfl,λ_ _ _ B=>B,λ_ _ _=>rfl,λg s k q=>b.mem _ _ _ (O _ _ _ q),λg t=>by grind⟩
  refine .aU ar (.b4 ag.b8.ok aq (.aU bt (ae ⟨(.row i cap,C),aK⟩ X bj z (au.tmp ak ax b.mem) ?_ ?_ ?_)))
  .exact Ng (L:=⟨.slice (f ⟨i,0,p⟩) j cap,[i]⟩) aO bb w
  .refine⟨λg s k q=>b.mem _ _ _ (O _ _ _ q),a,λK aL l aG e=>?_,?_,λl e g t=>?_,λg t=>⟨(b.own g t).1,λl e=>?_⟩⟩
   .cases K with
    |zero=>
     cases aG;cases e;refine⟨λg=>if g=i then f (.cells (C++cells.drop (j*h)).toArray W (0,0))else p,⟨a,H,a',bh,bp,cells.drop (j*h),N,a⟩,λg s t=>N,λg=>?_,λg t s=>?_⟩
     .by_cases aH:g=i<;>simp[aH]
     grind
    |succ K=>grind
   .grind
   .grind
   simp[z]at e;subst e;have:=(b.own g t).2 _ (by rw[ba];simp;rfl);grind
  refine⟨d.size,d.a6,λg s k q=>?_,λg t a1 s=>?_,λl e g t=>?_,λK aL l aG=>by grind,d.os,d.tape,d.output,d.own⟩
  .simp only[z,U,bl (bn g s k q)];exact d.mem _ _ _ q
  .have:g≠i:=x;simp[z,U,bl this];exact d.bG g t a1 s
  grind
section
variable {q:ag P}
def g.iQ{d:Prop}(i:∀b,bd l b->d)(j:d->g q D be (.code r::av) .normal F l):g q D be (.code r::av) .normal F l:=
 λb e h a=>j (i b a) b e h a
def g.fE{d:Prop}(i:∀b,bd l b->d)(j:d->g q D be (.aj all bs::av) .normal F l):g q D be (.aj all bs::av) .normal F l:=
 λb e h a=>j (i b a) b e h a
def cm.len{W}{k e d:Nat}{bP}{ah}(g:l[d]?=f (.J (cm W k bP e ah)))(b)(bQ:bd l b):c ah=e*k/\e<=9223372036854775807/\(0<e->∃i a,bP=.row i a)/\∀h,bP=.nil h->e=0:=by
 have n:d<c b.t:=h0;obtain⟨o,j,_⟩:=bQ.box d _ _ g (bG n);cases bP with
 |nil h=>obtain⟨_,_,q,rfl,_⟩:=j;grind
 |row i a=>obtain⟨_,_,q,r,s,_⟩:=j;grind
def g.jo(aV:bn P ad)(E:Nat){e}{eL}{h}{bP}{ah}(ck:s.op=.call {callee:=.builtin .len,args:=#[k],argTypes:=dn})(N:dn[0]?=f o)(r:b1 ad o=f e)(I:e.desc=.slice eL)(Q:bF F k=cM (cY bP j))(t:l[E]?=f (.J (cm W h bP j ah)))(O:s.guard=p)(w:fg D s.dst=m)(u:g q D be (.aj all bs::av) .normal (fW s.dst (aw (.int .i64 j)) F) l):g q D be (.aj all (s::bs)::av) .normal F l:=by
 refine g.cJ (ι:=Unit) (λ_=>aw (.int .i64 j)) (λ_=>l) O w (λn x K i=>?_) λ_=>u;obtain⟨_,A,_,M⟩:=cm.len t n i;have ae:=eO K k;rw[Q]at ae;have ae:=Rd.bp ae;have z:=(aV o e r).run_underlying (J:=n.a);rw[I]at z;have B:dn[0]?=f o:=N;have y:∃d b,cY bP j=.slice d j b:=by
  cases bP with
  |nil d=>rw[M d rfl];exact⟨d,0,a⟩
  |row R b=>exact⟨_,b,rfl⟩
 obtain⟨d,b,C⟩:=y;rw[C]at ae;refine⟨(),.value (.int .i64 j),n,.int .i64 j,RC,.inl a,Rd.int cQ,i,.refl _ _,?_⟩;have:(ac x.eval s).events P n.a #[]=#[]:=RC;rw[this];exact .nil
def vn:n Q->Bool
 |[]=>m
 |.c b::a=>match nw b with|true=>vn a|false=>v
 |_=>v
def nb(A:n Z)(a:n Q):Prop:=c A=c a/\∀(d:Nat)b,a[d]?=f (Q.c b)->∃e,A[d]?=f e/\∀g,Rd g e b
theorem nb.of{l}{b}:∀{A:n Z}{d:n Q},vn d=m->bO l b A d->nb A d
 |[],[],_,_=>⟨rfl,λi k e=>by grind⟩
 |[],_::_,_,g=>g.elim
 |_::_,[],_,g=>g.elim
 |r::A,.c s::d,e,g=>by
  simp[vn]at e;cases j:nw s with
  |false=>grind
  |true=>
   simp[j]at e;obtain⟨o,q⟩:=nb.of e g.2;refine⟨by grind,λi k h=>?_⟩;cases i with
   |zero=>simp at h;subst h;exact⟨r,a,λt=>vo j g.1⟩
   |succ i=>grind
 |_::_,.ptr _ _::_,e,_=>by exact cQ
 |_::_,.w _ _ _ _::_,e,_=>by exact cQ
 |_::_,.aV _::_,e,_=>by exact cQ
 |_::_,.S _ _::_,e,_=>by exact cQ
 |_::_,.any::_,e,_=>by exact cQ
theorem bO.gr{l}{b}:∀{A:n Z}{d:n Q},bO l b A d->∀g∈A,AM.dY g=m
 |[],[],_,g,e=>by grind
 |[],_::_,a,_,_=>a.elim
 |_::_,[],a,_,_=>a.elim
 |i::A,h::d,a,g,e=>by
  rcases fr.1 e with rfl|e
  .exact cx.cell a.1
  exact bO.gr a.2 g e
def eC.eQ(aV:bn P ad)(d){h cap}{ah}{new}{e}(ao:s.op=.store o k X)(Q:b1 ad o=f e)(R:bF F k=cM (.pointer (f ⟨i,off,p⟩)))(ae:mx (bF F X)=f new)(V:c new=e.size)(M:vn new=m)(u:l[d]?=f (.J (cm W h (.row i cap) j ah)))(Y:off+c new<=c ah):
  eC P D s F l (ι:={A:n Z // nb A new}) (λ_=>.any) (λA=>l.set d (.J (cm W h (.row i cap) j (ah.take off++A.1++ah.drop (off+c A.1))))):=by
 intro r t J bQ;have w:=eO J k;rw[R]at w;have w:=Rd.bp w;have O:=u3 ae (eO J X);have U:d<c l:=(cO.1 u).1;have aA:d<c r.t:=h0;have S:=bG aA;generalize r.t[d]=L at S;obtain⟨aH,B,aL,aE,I⟩:=bQ.box d _ L u S;obtain⟨q,aw,aP,T⟩:=cm.lookup B;obtain⟨aG,aN,au,G,aD,_⟩:=B;have ak:i∈L.al:=(aE i).2 N;have ag:=aL i _ aP;let A:=(t.eval X).cells.toList;have an:nb A new:=nb.of M O;have ar:c A=c new:=an.1;have ax:off+0+c A<=(ah++q).toArray.size:=N;have aj:=run_storeCells_at P i off W A 0 (ah++q).toArray r.a ag ax O.cell;simp only[kf]at aj;have az:(ah++q).take off++A++(ah++q).drop (off+c A)=(ah.take off++A++ah.drop (off+c A))++q:=N;rw[az]at aj;have ab:c (ah.take off++A++ah.drop (off+c A))=c ah:=N;have aa:=setRow_heap r.a i (ah++q).toArray ((ah.take off++A++ah.drop (off+c A))++q).toArray W (0,0) ag;have y:∀g,g≠i->(r.a.setRow i ((ah.take off++A++ah.drop (off+c A))++q).toArray).heap[g]?=r.a.heap[g]?:=λg z=>setRow_other r.a i g _ z;obtain⟨ai,t2⟩:=bQ.cf (d:=d) (j7:=cm W h (.row i cap) j (ah.take off++A++ah.drop (off+c A))) (cp:=L) (bj:=r.a.setRow i ((ah.take off++A++ah.drop (off+c A))++q).toArray) u S rfl E
  (λg z aJ=>y g N) (λg z=>.inl z)
  ⟨λg=>if g=i then f (.cells ((ah.take off++A++ah.drop (off+c A))++q).toArray W (0,0))else p,⟨aG,λk R=>by grind[bO.gr],by grind,G,aD,q,by grind,rfl⟩,λg s z=>by simp_all,λg=>by simp_all⟩ a a a
 have H:(t.eval X).cells.size=e.size:=N;refine⟨⟨A,an⟩,.skip,_,K,?_,.inr ⟨a,a⟩,C,ai,t2,?_⟩
 .have av:(storeCells ⟨i,off,p⟩ (t.eval X).cells.toList).run P r.a=_:=aj;simp[ac,ao,w,Instr.storeAt,Instr.sureAddr,storeVar,(aV o e Q).bk,H,av]
 intro x b;have aI:ac t.eval s=(do storeVar o ⟨i,off,p⟩ (t.eval X);pure .skip):=by simp[ac,ao,w,Instr.storeAt,Instr.sureAddr]
 rw[aI]at b;have aC:x∈(storeCells ⟨i,off,p⟩ (t.eval X).cells.toList).events P r.a #[]:=by
  simp[storeVar,aF,(aV o e Q).bk,H,aK,events_sizeOf,d',hs,dh,cI,c7,Sem.events_pure]at b;generalize(storeCells ⟨i,off,p⟩ (t.eval X).cells.toList).run P r.a=aM at b;cases aM with
  |ok aQ bj=>simpa using b
  |halt k bj=>simpa using b
 rcases nn (t.eval X).cells.toList 0 (ah++q).toArray r.a #[] ag ax O.cell x aC with aq|⟨aO,_,_,rfl⟩
 .grind
 exact ow (ca S) ak (I i ak _)
def g.eQ{ad}(aV:bn P ad)(d){o}{k X}{W}{h j i cap off}{ah}{new}{e}(x:s.op=.store o k X)(a:b1 ad o=f e)(z:bF F k=cM (.pointer (f ⟨i,off,p⟩)))(w:mx (bF F X)=f new)(t:c new=e.size)(u:vn new=m)(b:l[d]?=f (.J (cm W h (.row i cap) j ah)))(r:off+c new<=c ah)(y:s.guard=p)(B:fg D s.dst=m)(n:∀A,nb A new->g q D be (.aj all bs::av) .normal (fW s.dst .any F) (l.set d (.J (cm W h (.row i cap) j (ah.take off++A++ah.drop (off+c A)))))):g q D be (.aj all (s::bs)::av) .normal F l:=
 g.cJ _ _ y B (eC.eQ aV d x a z w t u b r) λA=>n A.1 A.2
def g.swap(e u){i j:Z->(Nat->Option Obj)->Prop}(ar:e≠u)(z:l[e]?=f (.J i))(A:l[u]?=f (.J j))(K:∀T o,i T o->T=.nilFunc)(ak:∀T o,j T o->T=.nilFunc)(V:g q D be (.code r::av) .normal F ((l.set e (.J j)).set u (.J i))):g q D be (.code r::av) .normal F l:=by
 refine g.aU (λn ax aa bQ=>?_) V;have O:e<c l:=(cO.1 z).1;have Q:u<c l:=(cO.1 A).1;have an:e<c n.t:=h0;have aq:u<c n.t:=h0;obtain⟨x,ad⟩:∃L,n.t[e]?=f L:=⟨_,bG an⟩;obtain⟨C,ag⟩:∃L,n.t[u]?=f L:=⟨_,bG aq⟩;have y:=bQ.box e _ x z ad;have ab:=bQ.box u _ C A ag;have aw:x.v=.nilFunc:=by obtain⟨o,G,_⟩:=y;grind
 have H:C.v=.nilFunc:=by obtain⟨o,G,_⟩:=ab;grind
 let k:a5:={n with t:=(n.t.set e C).set u x}
 have ae:∀b,((l.set e (.J j)).set u (.J i))[b]?=if b=u then f (.J i)else if b=e then f (.J j)else l[b]?:=λb=>by grind
 have W:∀b,k.t[b]?=if b=u then f x else if b=e then f C else n.t[b]?:=λb=>by grind
 have Y:∀L∈k.t,L∈n.t:=λL h=>by grind
 have s:fm l n ((l.set e (.J j)).set u (.J i)) k:=by
  refine⟨λ_ _ _ J=>J,λb U L aG h=>?_⟩;rw[ae,W];by_cases w:b=u
  .subst w;rw[A]at aG;cases aG;rw[ag]at h;cases h;exact⟨.J i,x,by simp,by simp,by show x.v=_;grind⟩
  by_cases N:b=e
  .subst N;rw[z]at aG;cases aG;rw[ad]at h;cases h;exact⟨.J j,C,by simp[w],by simp[w],by show C.v=_;grind⟩
  exact⟨U,L,by grind,by grind,.refl _ _⟩
 have X:cN l n ((l.set e (.J j)).set u (.J i)) k:=by exact⟨bE _,λ_ _ _=>rfl,λ_ _ _ J=>J,λ_ _ _ _=>rfl,λL J t d=>.inr ⟨L,Y L J,d⟩,s.box,rfl,rfl,rfl,rfl⟩
 refine⟨k,a,⟨aa.size,aa.defers.imp λ_ K=>K.mono s,λao=>(aa.aK ao).mono s bQ.len⟩,⟨bQ.mem,by simp[k,bQ.len],?_,?_,λL h t d=>bQ.lt L (Y L h) t d,λt d=>⟨(bQ.own t d).1,λL h=>(bQ.own t d).2 L (Y L h)⟩⟩,X⟩
 .intro b U L aG h;rw[ae]at aG;rw[W]at h;split at aG
  .rename_i w;rw[br w]at h;cases aG;cases h;exact y
  rename_i w;rw[bl w]at h;split at aG
  .rename_i N;rw[br N]at h;cases aG;cases h;exact ab
  rename_i N;rw[bl N]at h;exact(bQ.box b U L aG h).ck s bQ.len λt d=>⟨a,λ_=>rfl⟩
 intro b B E I R S t d M;rw[W]at R S;have key:∀b L,(if b=u then f x else if b=e then f C else n.t[b]?)=f L->n.t[if b=u then e else if b=e then u else b]?=f L:=λb L az=>by grind
 have:=bQ.a3 _ _ E I (key b E R) (key B I S) t d M;by_cases ah:b=u<;>by_cases ai:B=u<;>by_cases aj:b=e<;>by_cases au:B=e<;>simp_all
def g.jx(aV:bn P ad){e}{H T}(aC:s.op=.makeSlice o k X)(ag:b1 ad o=f e)(aJ:e.desc=.slice W)(aa:b1 ad W=f a4)(aj:bF F k=aw (.int H j))(ak:bF F X=aw (.int T j))(i:j*a4.bytes<=140737488355328)(aS:j<=140737488355328)(ae:s.guard=p)(ab:fg D s.dst=m)(ao:∀A d,g q D be (.aj all bs::av) .normal (fW s.dst (cM (cY (.row A j) j)) F) (l++[.J (cm W a4.size (.row A j) j d)])):g q D be (.aj all (s::bs)::av) .normal F l:=by
 refine g.cJ (ι:=Nat×n Z) (λw=>cM (cY (.row w.1 j) j)) (λw=>l++[.J (cm W a4.size (.row w.1 j) j w.2)]) ae ab (λb U aA r=>?_) λw=>ao w.1 w.2;have K:=eO aA k;rw[aj]at K;have K:=b8 K;generalize ax:U.eval k=aL at K;cases K;have M:=eO aA X;rw[ak]at M;have M:=b8 M;generalize y:U.eval X=aM at M;cases M;have an:=(aV o e ag).eN;rw[aJ]at an;obtain⟨B,R,S,aN,aO,az,bq,aQ,aR⟩:=(aV W a4 aa).dc;have C:(B.bytes:Int)*(j:Int)<=281474976710656:=N;have aF:=run_make (P:=P) (w:=b.a) o W B R an S az H T j j x (Int.le_refl _) C x;simp[c5]at aF;let d:=(madeCells R.cells (j*B.size)).toList;have G:c d=j*a4.size:=by grind[size_madeCells]
 have aD:∀I∈R.cells.toList,dY I=m:=bO.gr (ux (l:=l) (b:=b) bq);have aE:c R.cells.toList=a4.size:=N9;have aI:∀I∈d,dY I=m:=by intro I ai;simp[d,madeCells,Array.toList_map,k_]at ai;grind[Nat.mod_lt]
 have aG:ey (l++[.J (cm W a4.size (.row b.a.heap.size j) j d)]) {b with a:=b.a.alloc (.cells d.toArray W),t:=b.t++[⟨.nilFunc,[b.a.heap.size]⟩]} (.J (cm W a4.size (.row b.a.heap.size j) j d)) ⟨.nilFunc,[b.a.heap.size]⟩:=by
  refine⟨λQ=>if Q=b.a.heap.size then f (.cells (d++[]).toArray W (0,0))else p,⟨a,aI,G,bE _,by omega,[],by grind,a⟩,λQ s C=>?_,λQ=>?_,λQ C s=>?_⟩
  .by_cases t:Q=b.a.heap.size
   .subst t;simp[dH]at C;grind[lZ]
   grind
  .by_cases t:Q=b.a.heap.size<;>simp[t]
  simp at C;subst C;cases u:b.E b.a.heap.size s with
  |none=>rfl
  |some I=>have:=r.block u;omega
 have O:bd l {b with a:=b.a.alloc (.cells d.toArray W)}/\cN l b l {b with a:=b.a.alloc (.cells d.toArray W)}:=
  r.cX E (λA i=>iR b.a _ i) (λA i s=>rfl) (λA i s I u=>by have:=r.block u;omega) a a a
 obtain⟨V,Y⟩:=O.1.b2 O.2 rfl r aG (λA i=>by simp_all);refine⟨(b.a.heap.size,d),.value (.slice (f ⟨b.a.heap.size,0,p⟩) j j),_,_,?_,.inl a,Rd.val a,V,Y,?_⟩
 .simp[ac,aC,ax,y,aF,d]
 have t:ac U.eval s=(do pure (.value (<-Instr.makeSlice o (.int H j) (.int T j)))):=by simp[ac,aC,ax,y]
 rw[t];refine jm ?_;intro t z;have ah:∀h,(underlying o).run P h=.ok (.slice W) h:=λh=>by simp[underlying,an]
 have aH:∀h,(typeInfo W).run P h=.ok B h:=λh=>by simp[typeInfo,S]
 have L:∀h,(zeroValue W).run P h=.ok R h:=λh=>by simp[zeroValue,typeInfo,S,az]
 have aP:∀h,(sizeOf W).run P h=.ok B.size h:=λh=>by simp[sizeOf,typeInfo,S]
 have au:IntKind.i64.wrap (j:Int)=j:=by grind[IntKind.wrap_i64]
 have aq:¬(j:Int)<0:=x;have ar:¬(281474976710656<(B.bytes:Int)*j):=x;simp[Instr.makeSlice,ah,aH,aP,asInt,asIntOf,au,aq,ar]at z;rw[L]at z;simp[aK,(dC.newRow (P:=P)) _ _,ite_self]at z;unfold askRoom at z;split at z
 .have:t=⟨.mark .noRoom,v,m⟩:=by simpa using z
  rw[this];exact .inl a
 simp at z
end
section
variable {h I:Nat}{bz:Z}
end
def Y7{a A:n α}{b}(g:b+c A<=c a)(d):(a.take b++A++a.drop (b+c A))[d]?=if b<=d/\d<b+c A then A[d-b]? else a[d]?:=by have e:c (a.take b)=b:=N;grind
def ek.fl{h}{d:Nat->n O}{ah}{new}(k:ek h j V ah)(e u)(bp:e<j)(q:nb A new)(D:u+c new<=h)(B:∀a,a<j->a≠e->d a=V a)(t:c (d e)=h)(o:∀b g,(d e)[b]?=f g->(u<=b/\b<u+c new/\new[b-u]?=f (Q.c g))∨(¬(u<=b/\b<u+c new)/\(V e)[b]?=f g)):ek h j d (ah.take (e*h+u)++A++ah.drop (e*h+u+c A)):=by
 have J:e*h+h<=j*h:=F0;have I:=q.1;have E:=k.len;have r:e*h+u+c A<=c ah:=x;refine⟨by grind,λa i=>?_,λa i b g z=>?_⟩
 .by_cases l:a=e
  .grind
  rw[B a i l];exact k.et a i
 rw[Y7 r];by_cases l:a=e
 .subst l;rcases o b g z with⟨cS,dq,C⟩|⟨cS,dq⟩
  .rw[br x,show a*h+b-(a*h+u)=b-u by omega];exact q.2 _ g C
  rw[bl x];exact k.bY a i b g dq
 have y:(V a)[b]?=f g:=N;have F:b<h:=by rw[<-k.et a i];grind
 rw[bl ?_]
 .exact k.bY a i b g y
 rcases Nat.lt_or_gt_of_ne l with w|s
 .have:a*h+h<=e*h:=by rw[<-pa];exact gX _ w
  omega
 have:e*h+h<=a*h:=by rw[<-pa];exact gX _ s
 omega
def ek.gE{h}{a:Nat->n O}{ah}(g:ek h j V ah)(s:∀b,b<j->a b=V b)(t:c (a j)=h)(y:c A=h)(B:∀(d:Nat)e,(a j)[d]?=f e->∃l,A[d]?=f l/\∀o,Rd o l e):ek h (j+1) a (ah++A):=by
 have u:=g.len;refine⟨by grind,λb k=>?_,λb k d e z=>?_⟩
 .by_cases r:b=j
  .grind
  rw[s b x];exact g.et b x
 by_cases r:b=j
 .grind
 have i:b<j:=x;have q:(V b)[d]?=f e:=N;have w:d<h:=by rw[<-g.et b i];grind
 have:b*h+h<=j*h:=by rw[<-pa];exact gX _ i
 rw[kH x];exact g.bY b i d e q
def pJ(b:n (Nat×bv))(a:bI):n ResultVar->Option (n y)
 |[]=>f []
 |.tmp i::h=>match pJ b a h with
  |some g=>f (look a i::g)
  |none=>p
 |.cell d i::h=>match pJ b a h with
  |some g=>match look a d with
   |.p (.R (.c (.Q e)))=>match b1 b i with
    |some k=>match hf k (e.map Q.c)with
     |some j=>f (.p j::g)
     |none=>p
    |none=>p
   |_=>p
  |none=>p
def Eg{P}{ad}(aV:bn P ad){D}{l}{b}{F}{V}(ab:bZ D l b F V):∀{S:n ResultVar}{d:n y},pJ ad F S=f d ->
  ∃A,b6 l b A d/\∀J,(∀i z T,b.E i z=f T->J.cell? ⟨i,z,p⟩=f T)->(S.mapM (ic V)).run P J=Result.ok A J/\∀o,∀x∈(S.mapM (ic V)).events P J o,x∈o∨∃i z T,x=⟨.cell ⟨i,z,p⟩,v,v⟩/\b.E i z=f T
 |[],d,k=>by cases k;exact⟨[],C,λJ _=>⟨by simp,λo x q=>.inl (by simpa using q)⟩⟩
 |.tmp w::ao,d,k=>by
  simp[pJ]at k;cases W:pJ ad F ao with
  |none=>grind
  |some aJ=>
   simp[W]at k;subst k;obtain⟨A,ag,aP⟩:=Eg aV ab W;refine⟨V.tmps.getD w K::A,⟨ab.aK w,ag⟩,λJ B=>?_⟩;obtain⟨k1,R⟩:=aP J B;refine⟨by simp[pc,cI,ic,d_,c7,k1],λo x q=>R o x ?_⟩;simpa[pc,ic,k1]using q
 |.cell t w::ao,d,k=>by
  simp[pJ]at k;cases W:pJ ad F ao with
  |none=>grind
  |some aJ=>
   simp[W]at k;have Z:=ab.aK t;generalize look F t=aO at k Z;split at k
   case h_2=>cases k
   rename_i e;cases I:b1 ad w with
   |none=>grind
   |some s=>
    simp[I]at k;cases O:hf s (e.map Q.c)with
    |none=>grind
    |some ah=>
     simp[O]at k;subst k;obtain⟨A,ag,aP⟩:=Eg aV ab W;have G:=b8 Z;generalize aG:V.tmps.getD t K=aM at G;cases G;rename_i i h X M ar;let U:=(aB (c e)).map X;have H:bO l b U (e.map Q.c):=by
      have key:∀j d,(∀g aa,d[g]?=f aa->Rd b.E (X (j+g)) aa)->bO l b ((aB (c d)).map λg=>X (j+g)) (d.map Q.c):=by
       intro j d;induction d generalizing j with
       |nil=>intro _;trivial
       |cons aI d ak=>
        intro Y;rw[fp,w_];refine⟨Y 0 aI a,?_⟩;have:=ak (j+1) (λg aa u=>by have:=Y (g+1) aa N;grind);grind[Function.comp_def]
      have:=key 0 e N;grind
     have az:∀g r,U[g]?=f r->b.E i (h+g)=f r:=λg r u=>by
      simp[U,ng]at u;by_cases aw:g<c e
      .simp[aw]at u;subst u;exact M g e[g] (bG aw)
      grind
     let aN:au:={b.a with heap:=b.a.heap}
     have ax:∃r,ez l b r ah/\∀J,(∀i z T,b.E i z=f T->J.cell? ⟨i,z,p⟩=f T)->(loadVar w ⟨i,h,p⟩).run P J=.ok r J:=by
      have ae:=aV w s I;cases E:s.agg<;>simp[hf,E]at O
      .cases av:c9 0 (e.map Q.c)with
       |none=>grind
       |some aH=>
        simp[av]at O;subst O;obtain⟨r,aj,aD⟩:=H.get (er av);refine⟨r,aD,λJ B=>?_⟩;have:=B _ _ _ (az 0 r aj);simp[loadVar,cI,ae.ew,c7,E];grind[run_load]
      cases av:mZ s.size (e.map Q.c)with
      |none=>grind
      |some r0=>
       simp[av]at O;subst O;obtain⟨an,aL⟩:=tW av;have aq:=H.take s.size;rw[<-an]at aq;have ai:c (U.take s.size)=s.size:=N;refine⟨.agg (U.take s.size).toArray,⟨U.take s.size,a,aq⟩,λJ B=>?_⟩;have L:=run_loadCells_list (P:=P) J ⟨i,h,p⟩ (U.take s.size) (λg r u=>by grind[gQ]);rw[ai]at L;simp[loadVar,cI,ae.ew,c7,E];simp[ae.bk,L]
     obtain⟨r,aC,aE⟩:=ax;refine⟨r::A,⟨aC,ag⟩,λJ B=>?_⟩;obtain⟨k1,R⟩:=aP J B;have aA:(ic V (.cell t w))=loadVar w ⟨i,h,p⟩:=by simp[ic,aG,asAddr]
     refine⟨by grind[Go.Sem.run_bind,Go.Sem.run_pure,Go.Result.andThen_ok],λo x q=>?_⟩;rw[pc,aA]at q;simp[aF,aE J B,aK,k1,Sem.events_pure]at q;rcases R _ x q with q|q
     .rcases DH q with q|q
      .grind
      obtain⟨g,u,rfl⟩:=pp (aV w s I) (J:=J) (j:=c e) (λg u=>⟨X g,B _ _ _ (M g e[g] (bG u))⟩) (by have:=sf O;grind) x q;exact .inr ⟨i,h+g,X g,a,M g e[g] (bG u)⟩
     grind
theorem o6.fe(aV:bn P ad){fn}{bg}{n}(t:pJ ad F fn.results.toList=f bg)(k:py bg=f n):o6 P fn F n:=by
 intro z B x g r;obtain⟨A,i,j⟩:=Eg aV r t;refine⟨_,Kn k i,λe s=>?_⟩;obtain⟨k1,u⟩:=j e s;have h:(fn.results.mapM (ic g)).run P e=Result.ok A.toArray e:=RE;have q:∀a,∀d∈(fn.results.mapM (ic g)).events P e a,d∈a∨∃l o y,d=⟨.cell ⟨l,o,p⟩,v,v⟩/\x.E l o=f y:=by rw[xh];intro a d b;exact u a d (by simpa using b)
 constructor
 .unfold results;rw[cI];refine(eN (λw=>Result.andThen w _) (Eq.trans ?_ h)).trans ?_
  .congr 2
  simp
 intro d b;have C:d∈(fn.results.mapM (ic g)).events P e #[]:=by unfold results at b;rw[aF]at b;change d∈((fn.results.mapM (ic g)).run P e).evThen ((fn.results.mapM (ic g)).events P e #[]) _ at b;rw[h]at b;simpa using b
 grind
section
variable {q:ag P}
def tH(h:n (Nat×bv))(e:n ResultVar)(b:n Nat)(g:bI)(a:y):Option (n Prop):=
 match pJ h g e with
 |some d=>match py d with
  |some i=>match hN (c b) a with
   |true=>kq i (e' b a)
   |false=>p
  |none=>p
 |none=>p
def g.cb(aV:bn P ad){fn}{d}{res}(aS)(e:tH ad fn.results.toList aS F res=f ab)(n:U ab)(k:dy aS l=f ao)(j:l9 ao=m)(i:e_ aS=m)(h:∀b,b<d->aS[b]?=f b):
  g q D (k7 P fn d res ao) (.code .ret::av) .normal F l:=by refine g.ret ⟨.inl a,aS,?_⟩;unfold tH at e;grind[o6.fe]
def Y.bB{i}{fn}{args}{res}(h:P.funcs[i]?=f fn)(e:(fn.name== "runtime.NumGoroutine")=v)(d:fn.body=f r)(k:ay args.length fn.ntmps=m)(n:kF args l->g q fn.ntmps (k7 P fn l.length res ao) [.code r] .normal (h3 0 args) l):Y q i args l res ao:=by refine⟨⟨fn,h,e,by grind⟩,λj A b a=>?_⟩;have:=bk.hh (q:=q) (ι:=Unit) (ao:=λ_=>ao) (res:=λ_=>res) h e d (fe k) (b2.mono (g.aT (n ⟨j,A,b,a⟩)) λ_ _ _ o=>⟨(),o⟩);exact this.toY.2 j A b a
def bX.mk{fn}{d}{res}(aS)(e:pK fn.results.toList aS F res=f ab)(k:U ab)(j:dy aS l=f ao)(i:l9 ao=m)(h:e_ aS=m)(g:∀b,b<d->aS[b]?=f b):bX fn d res ao .ret F l:=by refine⟨.inl a,aS,?_⟩;unfold pK at e;grind
end
def GK{t:ag P}{i:aL}{h}{w}{bs}{E}(I:i.kind≠.early)(n:aH[e]?=f s)(W:aU s (yielded aH w.tmps)=m)(F:bd l b)(S:∀u,(ac w.eval s).run P u=.ok (.enter E A.toArray) u)(R:∀u,(ac w.eval s).events P u #[]=#[])(V:bk t E cR l res aO)(K:b6 l b A cR)(M:∀k q g,bx (aO k) g q (res k)->bd (aO k) g->dd l b (aO k) g->cc t bq (G (i.N (w.put s.dst q) (.inRegion aH bs::h)) ai) g):
  cc t bq (G (i.N w (.inRegion aH (e::bs)::h)) ai) b:=by
 obtain⟨_,N⟩:=V;refine .next a λD U=>?_;have C:=t.bO U;have z:=F.rely C;have J:b6 l D A cR:=K.mono C.aY.ext F.len;refine⟨_,D,_,tN n W I (S D.a),?_,N _ A J z bq _ λk O q T y j d o=>?_⟩
 .refine⟨⟨l,l,z,z,.refl _ _⟩,du.seen ?_⟩;rw[R];exact .nil
 refine uP (ai:=ai) (r:=i.N w (.inRegion aH (e::bs)::h)) d y λQ x=>?_;have B:=qw (i:=i) (w:=w) (h:=h) aH e bs q;rw[n]at B;simp only[oc]at B;rw[B];exact M k q Q (j.mono x.aY.ext d.len) (d.rely x) (C.aY.trans (o.trans x.aY))
def g.cU{r:ag P}{V:a3}(Y:bk r V cR l res aO)(aH:s.guard=p)(n:s.op=.call {callee:=.value cP,args:=ah,argTypes:=dn})(q:gR (bF F cP)=f (V,cap))(aA:l3 (ah.toList.map (bF F)++e4 cap) cR=f ab)(ai:U ab)(an:fg D s.dst=m)(az:∀d,g r D be (.aj all bs::av) .normal (fW s.dst (res d) F) (aO d)):g r D be (.aj all (s::bs)::av) .normal F l:=by
 intro aa S o e aq J u ao idx i a A;cases idx with
 |nil=>exact a.elim
 |cons aJ idx=>
 obtain⟨B,a⟩:=a;have Z:=eO o cP;unfold gR at q;split at q
 case h_2=>cases q
 case h_1 vf u2 he=>
  cases q;rw[he]at Z;have W:=b8 Z;generalize G:S.eval cP=aw at W;cases W with
  |fn x b E k au w ax z aF K=>
   have y:x=[]:=jF E;subst y;have aC:b6 l aa b (e4 cap):=qo (λd ar C=>⟨w d,z d N,K d ar C⟩) k;have aE:b6 l aa (ah.toList.map S.eval++b) cR:=tm aA ai ((na (eO o) ah.toList).append aC);obtain⟨fn,ad,X,T⟩:=Y.1;refine GK i B (iZ aH) e (λR=>(mT n ad X T G R).1) (λR=>(mT n ad X T G R).2) Y aE λd aK M I j h=>?_;refine az d M _ ?_ j aq J u ao idx i a λaj Q ak t aD L H ae=>A aj Q ak t aD L H (h.trans ae);have O:=lg an;cases aI:s.dst with
   |none=>exact o.mono h e.len
   |some aG=>exact(o.mono h e.len).put (O aG aI) I
def Mn{l:Type}{d}{k}:∀{a:n Nat}{e h:n l},dy a e=f h->d∉a->dy a (e.set d k)=f h
 |[],e,h,b,_=>b
 |o::a,e,h,b,i=>by
  simp[fr,not_or]at i;simp[dy,ln]at b⊢;rw[j_ i.1];cases g:e[o]? with
  |none=>simp[g]at b
  |some r=>
   simp[g]at b⊢;cases j:dy a e with
   |none=>simp[j]at b
   |some q=>rw[Mn j i.2];simp only[j]at b;exact b
def KJ{h}{d}(b:ei h d=v):h∉d:=λa=>by rw[vE a]at b;cases b
def yW:Option (Tmp×E1)->n ResultVar
 |none=>[]
 |some a=>[.tmp a.1]
def K7(a:n Q):Option (Tmp×E1)->y
 |none=>.p (.agg a)
 |some b=>.ae [.agg a,b.2]
def uz(w:n (Nat×bv))(fn:Func)(x:Nat)(b:y)(h:n an):fv:=λs r d=>
 (s=.ret∨s=.normal)/\∃a l u e t j g i,∃o:Option (Tmp×E1),(∀q,o=f q->look r q.1=.p q.2)/\fn.results.toList=.cell t j::yW o/\b1 w j=f g/\g.agg=m/\c e=g.size/\look r t=aD l 0/\d[l]?=f (.cells u e)/\l∉a /\
  kq (K7 e o) (e' a b)=f i/\U i/\hN (c a) b=m/\dy a d=f h/\l9 h=m/\e_ a=m/\(∀k,k<x->a[k]?=f k)
def bk.jF{q:ag P}(aV:bn P ad){a2}{fn}{args}{ao:ι->n an}(pu:P.funcs[a2]?=f fn)(aN:(fn.name== "runtime.NumGoroutine")=v)(cT:fn.body=f r)(bR:args.length<=fn.ntmps)(a4:∀b b_,bZ fn.ntmps l b (h3 0 args) b_->bd l b->∀i cd S (aZ:ak->a5->Prop),i.kind≠.early->i.roundOf=p ->
  (∀B ae I az a0,(∃t,uz ad fn (c l) (res t) (ao t) B ae I)->bZ fn.ntmps I az ae a0->bd I az->dd l b I az->kO q aZ i cd S B a0 az)->cc q aZ (G (i.N b_ (.code r::cd)) S) b):bk q a2 args l res ao:=by
 refine⟨⟨fn,pu,aN,by rw[cT];rfl⟩,λb A bT bP aZ S bL=>?_⟩;obtain⟨bQ,bN⟩:=b6.get bT;let i:aL:={fn:=a2,tmps:=#[],todo:=[],defers:=[],mode:=.run,kind:=.normal,roundOf:=p}
 have cf:Frame.enter P a2 A.toArray .normal=i.N {tmps:=A.toArray++Array.replicate (fn.ntmps-A.toArray.size) K,defers:=[]} [.code r]:=N1;rw[cf];refine a4 b {tmps:=A.toArray++Array.replicate (fn.ntmps-A.toArray.size) K,defers:=[]} ⟨by simp;omega,⟨[],C⟩,λaJ=>?_⟩ bP i [] S aZ (by simp[i]) rfl ?_
 .rw[yM];simp only[g0,dH,sE];have:=bN aJ;rcases d6 aJ (c A) with cb|b'
  .have B:(A.toArray++Array.replicate (fn.ntmps-A.toArray.size) K).getD aJ K=(A[aJ]?).getD K:=FX;rw[B];exact this
  rw[w' x];trivial
 .rintro B ae aK e jD ⟨aj,V,aS,d,W,aI,aJ,ty,it,ab,s,bV,aU,aW,tC,D_,bW,bf,bX,bF,bH,bI,a6,a8,bJ,cl⟩ b3 M bg;obtain⟨a7,a9⟩:=LC a8;have Q:=b3.aK aJ;rw[bW]at Q;obtain⟨_,L,dp,D,a',aO⟩:=Q;obtain⟨cj,z,a_,cg,b8,cm⟩:=M.box d _ L bf D;subst a_;cases a';let ce:Mem:=λy s=>if y=dp then z[s]? else e.E y s;have br:∀s u,z[s]?=f u->e.a.cell? ⟨dp,s,p⟩=f u:=λs u bS=>by simpa[aM,cg]using bS
  have aD:∀y s u,e.E y s=f u->ce y s=f u:=λy s u X=>by grind
  have av:∀y s u,ce y s=f u->e.a.cell? ⟨y,s,p⟩=f u:=λy s u X=>by
   by_cases B:y=dp
   .grind
   simp[ce,B,dh]at X;exact M.mem y s u X
  obtain⟨U,H⟩:=M.cc (ce:=ce) (bj:=e.a) (ec:=.M) (cp:=⟨.pointer (f ⟨dp,0,p⟩),[]⟩) bf D rfl (bE _) (λ_ _ _=>rfl) (λy _ aP s=>by grind) aD av E rfl rfl rfl C
  have aq:eY e ⟨e.t.set d ⟨.pointer (f ⟨dp,0,p⟩),[]⟩,ce,e.a,e.own⟩:=⟨rfl,aD,λy aP s=>by
   have:y≠dp:=by rintro rfl;exact aP _ (ca D) E
   simp[ce,this,dh],av,λy aP=>by grind⟩
  have bC:bZ fn.ntmps (aK.set d .M) ⟨e.t.set d ⟨.pointer (f ⟨dp,0,p⟩),[]⟩,ce,e.a,e.own⟩ ae jD:=⟨b3.size,b3.defers.imp λ_ bD=>bD.mono H.ext,λF=>(b3.aK F).mono H.ext M.len⟩
  have ah:=Mn (k:=an.M) a6 bX;have aQ:bO (aK.set d .M) ⟨e.t.set d ⟨.pointer (f ⟨dp,0,p⟩),[]⟩,ce,e.a,e.own⟩ z aI:=b8.mono H.ext M.len;have b1:=bg.trans (H.too' M);let bq:Z:=match s with|none=>.agg z.toArray|some bc=>.tuple #[.agg z.toArray,jD.tmps.getD bc.1 K]
  have b7:∀J,(∀i s F,ce i s=f F->J.cell? ⟨i,s,p⟩=f F)->(results fn jD.tmps).run P J=.ok bq J/\∀B∈(results fn jD.tmps).events P J #[],∃i s F,B=⟨.cell ⟨i,s,p⟩,v,v⟩/\ce i s=f F:=by
   intro J aR;have bs:=aV ty it aW;have aF:c z=it.size:=by rw[b8.cM,D_]
   have au:∀t u,z[t]?=f u->J.cell? ⟨dp,0+t,p⟩=f u:=λt u w=>aR _ _ _ N;have a:=run_loadCells_list (P:=P) J ⟨dp,0,p⟩ z (λt u w=>by rw[gQ];exact au t u w);rw[aF]at a;have aC:(loadVar ty ⟨dp,0,p⟩).run P J=.ok (.agg z.toArray) J:=by simp[loadVar,cI,bs.ew,c7,tC];simp[bs.bk,a]
   have b9:fn.results=(ResultVar.cell aJ ty::yW s).toArray:=by apply Array.ext';simpa using aU
   have b5:asAddr (jD.tmps[aJ]?.getD K)=(pure ⟨dp,0,p⟩:Sem Addr):=by rw[<-hp,aO];rfl
   refine⟨by cases s<;>simp[results,b9,b5,aC,bq,yW],λB V=>?_⟩;have ba:B∈(loadVar ty ⟨dp,0,p⟩).events P J #[]:=by cases s<;>simpa[results,b9,b5,aC,yW]using V
   obtain⟨t,w,rfl⟩:=pp bs (J:=J) (j:=c z) (λt w=>⟨_,au t z[t] (bG w)⟩) (by rw[tC,aF];simp) B ba;exact⟨dp,0+t,z[t],rfl,by grind⟩
  have fin:∀o g,cU (⟨e.t.set d ⟨.pointer (f ⟨dp,0,p⟩),[]⟩,ce,e.a,e.own⟩:a5) g->o.fn=a2->o.tmps=jD.tmps->o.defers=jD.defers->o.mode=.returning->o.kind=.normal->cc q aZ (G o S) g:=by
   intro o g h bw bz bA a1 bB;have a3:=bC.rely h U;have aX:=U.rely h;have aa:=b1.trans h.aY;have bY:bx (aK.set d .M) g bq (K7 aI s):=by
    have aE:=aQ.mono h.aY.ext U.len;cases s with
    |none=>exact⟨z,rfl,aE⟩
    |some bc=>
     have bb:=a3.aK bc.1;rw[bV bc rfl]at bb;exact⟨[.agg z.toArray,jD.tmps.getD bc.1 K],rfl,⟨z,rfl,aE⟩,bb,C⟩
   obtain⟨ai,bp⟩:=v9 (kR:=g.t) ah aX.len;have b0:=(pz bF bH bY).sub ah bp bI;obtain⟨ck,bu⟩:=l_ ah;obtain⟨d1,d2⟩:=l_ bp;have bt:∀L∈ai,L∈g.t:=Eo bp;have aw:bd (ao aj) {g with t:=ai}:=by obtain⟨T,_⟩:=aX.sub ah bp a7 bJ;refine⟨T.mem,T.len,λt bo L aG D=>?_,T.a3,T.lt,λi cT=>⟨(aX.own i cT).1,λL D=>(aX.own i cT).2 L (bt L D)⟩⟩;exact ey.plain (l:=ao aj) (b:={g with t:=ai,own:=oS g ai}) (az:={g with t:=ai}) rfl rfl (vW a7 bo (ca aG)) (T.box t bo L aG D)
   have bh:dd l b (ao aj) {g with t:=ai}:=by refine⟨aa.size,aa.a6,aa.mem,aa.bG,λL D i cT=>aa.bW _ (bt L D) i cT,λd bo L aG D=>?_,aa.os,aa.tape,aa.output,aa.own⟩;have bQ:d<c l:=(cO.1 aG).1;obtain⟨ec,cp,cn,cq,cr⟩:=aa.box d bo L aG D;grind
   obtain⟨bU,aA⟩:=a3.defers;refine Ba bU o g _ aX.eb N a1 (by rw[bA];exact aA.gF aX) λY R=>?_;have O:cU {g with t:=ai} {Y with t:=ai}:=by
    refine⟨rfl,R.E,R.own,R.size,λi cT=>R.a6 i (cT.imp id ?_),R.mem,R.os,R.tape,R.output⟩;rintro⟨L,D,cT⟩;obtain⟨t,w,rfl⟩:=hq D;have ax:t<c aS:=by rw[<-d1];exact w
    obtain⟨cu,bm,b4⟩:=d2 t _ (bG ax);obtain⟨k,b2,bl⟩:=bu t _ (bG ax);rw[bG w]at bm;cases bm;refine⟨_,_,b4,λbM=>?_,cT⟩;rw[aA.e7 _ bM]at bl;cases bl;exact vH a9 _ (ca b2) rfl
   have bK:eY Y {Y with t:=ai}:=⟨rfl,λ_ _ _ a4=>a4,λ_ _ _=>rfl,λi s u X=>R.mem i s u (by rw[<-R.E];exact X),λi cT=>cT.imp id λ⟨L,D,cT⟩=>⟨L,by rw[R.t];exact bt L D,cT⟩⟩
   have ar:g.E=ce:=h.E;refine .aU bK (bL aj _ bq _ ⟨bw,a1,rfl,bB,fn,by grind,λJ aR=>?_⟩ (b0.mono O.aY.ext aw.len) (aw.rely O) (bh.trans O.aY));show(results fn o.tmps).run P J=_/\∀B∈(results fn o.tmps).events P J #[],_;rw[bz];have aH:∀i s F,ce i s=f F->J.cell? ⟨i,s,p⟩=f F:=λi s F a4=>aR i s F (by show Y.E i s=f F;rw[R.E,ar];exact a4);refine⟨(b7 J aH).1,λB V=>?_⟩;obtain⟨i,s,F,aU,aW⟩:=(b7 J aH).2 B V;exact⟨i,s,F,aU,by show Y.E i s=f F;rw[R.E,ar];exact aW⟩
  rcases V with rfl|rfl
  .intro pre;exact .aU aq (.ctl U rfl (λ_=>Et rfl) λg h=>fin _ g h rfl rfl (h2 _) rfl rfl)
  exact .aU aq (.ctl U rfl (λ_=>Er rfl) λg h=>fin _ g h rfl rfl (h2 _) rfl rfl)
def bk.bB{q:ag P}(aV:bn P ad){i}{fn}{args}{ao:ι->n an}(t:P.funcs[i]?=f fn)(s:(fn.name== "runtime.NumGoroutine")=v)(b:fn.body=f r)(C:ay args.length fn.ntmps=m)(D:kF args l->g q fn.ntmps (λB w h=>∃u,uz ad fn l.length (res u) (ao u) B w h) [.code r] .normal (h3 0 args) l):bk q i args l res ao:=by refine⟨⟨fn,t,s,by rw[b];rfl⟩,λe A d a=>?_⟩;have:=bk.jF (q:=q) (ao:=ao) (res:=res) aV t s b (fe C) λI y i k z E j x o _ F=>(show b2 q fn.ntmps r _ (h3 0 args) l from g.aT (D ⟨e,A,d,a⟩)) I y i k z E j x o F;exact this.2 e A d a
def bO.set{l}{b}{i}{aa}:∀{A:n Z}{a:n Q}{h:Nat},bO l b A a->A[h]?=f aa->cx l b aa i->bO l b A (a.set h i)
 |[],[],_,_,d,_=>by grind
 |[],_::_,_,d,_,_=>d.elim
 |_::_,[],_,d,_,_=>d.elim
 |k::A,j::a,0,d,e,g=>by simp at e;subst e;exact⟨g,d.2⟩
 |k::A,j::a,h+1,d,e,g=>⟨d.1,bO.set d.2 N g⟩
section
variable {q:ag P}
def g.cr(d u)(W h)(b:Nat->n O){eL}{ai}{gb}{ar:Nat->n O}(B:c9 d l=f (.cells eL ai))(z:c9 u ai=f (.c (.C m gb 0 ar)))(C:g q D be (.code r::av) .normal F ((l++[an.w W h 0 b]).set d (.cells eL (ai.set u (.w (c l) h 0 b))))):g q D be (.code r::av) .normal F l:=by
 refine g.aU (λe az K bQ=>?_) C;have aG:=er B;have X:=er z;have G:d<c l:=(cO.1 aG).1;have ah:d<c e.t:=h0;have I:=bG ah;generalize e.t[d]=L at I;obtain⟨t,A,au,Z,S,U⟩:=bQ.box d _ L aG I;obtain⟨i,Y,V⟩:=S.get X;have j:Rd e.E i (.C m h 0 b):=(Rd.fX (h:=gb) (gb:=h) (.inr a) V).cE λR ad=>by omega
 have ao:ey (l++[an.w W h 0 b]) {e with t:=e.t++[⟨i,[]⟩]} (.w W h 0 b) ⟨i,[]⟩:=⟨j.eo,.inl ⟨⟨rfl,rfl⟩,j⟩⟩;obtain⟨H,M⟩:=bQ.b2 (.refl _ _) rfl bQ ao E
 have y:(l++[an.w W h 0 b])[d]?=f (.cells eL ai):=N;have ak:(e.t++[(⟨i,[]⟩:Loc)])[d]?=f L:=N;have ag:(e.t++[(⟨i,[]⟩:Loc)]).set d L=e.t++[⟨i,[]⟩]:=m4;have aw:fJ (.cells eL ai) L (.cells eL (ai.set u (.w (c l) h 0 b))) L:=rfl;have ax:c l≠d:=x;have ab:ey ((l++[an.w W h 0 b]).set d (.cells eL (ai.set u (.w (c l) h 0 b)))) ⟨(e.t++[(⟨i,[]⟩:Loc)]).set d L,e.E,e.a,e.own⟩ (.cells eL (ai.set u (.w (c l) h 0 b))) L:=by
  rw[ag];refine⟨t,A,au,Z,?_,U⟩;have w:fm (l++[an.w W h 0 b]) {e with t:=e.t++[⟨i,[]⟩]} ((l++[an.w W h 0 b]).set d (.cells eL (ai.set u (.w (c l) h 0 b)))) {e with t:=e.t++[⟨i,[]⟩]}:=by
   refine⟨λ_ _ _ o=>o,λR bY cp Q lW=>?_⟩;by_cases aA:d=R
   .grind
   exact Fu
  have aa:bO (l++[an.w W h 0 b]) {e with t:=e.t++[⟨i,[]⟩]} A ai:=S.mono M.ext bQ.len;refine bO.set (aa.mono w H.len) Y ?_;refine⟨j.eo,by simp,λT ae aj kP o=>?_⟩;rw[j_ x,hr x,uI]at o;cases o;refine⟨bE _,λ_=>⟨⟨i,[]⟩,?_,a⟩⟩;exact uh
 obtain⟨aP,J⟩:=H.cc (ce:=e.E) (bj:=e.a) (cp:=L) y ak aw (bE _) (λ_ _ _=>rfl) (λ_ _ _ _=>rfl) (λ_ _ _ o=>o) bQ.mem (λt s=>⟨.inl s,bQ.lt L (ca I) t s⟩) rfl rfl rfl ab;have k:=M.trans J;exact⟨⟨(e.t++[(⟨i,[]⟩:Loc)]).set d L,e.E,e.a,e.own⟩,a,⟨K.size,K.defers.imp λ_ j=>j.mono k.ext,λaq=>(K.aK aq).mono k.ext bQ.len⟩,aP,k⟩
end
section
variable {q:ag P}
def g.fa(o)(W h)(dK:Nat->n O){e}{s:Nat->n O}(u:look F o=aw (.C m e 0 s))(i:g q D be (.code r::av) .normal ((o,cz (c l) (.C 0 h 0 0))::F) (l++[.q W h 0 dK])):g q D be (.code r::av) .normal F l:=by
 refine g.aU (λj w a bQ=>?_) i;have B:=a.aK o;rw[u]at B;obtain⟨t,b⟩:=bQ.b2 (bY:=.q W h 0 dK) (L:=⟨.slice p 0 0,[]⟩) (.refl _ _) rfl bQ (.inl ⟨rfl,rfl⟩) E;refine⟨{j with t:=j.t++[⟨.slice p 0 0,[]⟩]},rfl,⟨a.size,a.defers.imp λ_ d=>d.mono b.ext,λk=>?_⟩,t,b⟩;simp only[look];cases cT:af o k with
 |false=>exact(a.aK k).mono b.ext bQ.len
 |true=>
  exact Qu
def g.eu(d u)(W h)(b:Nat->n O){eL}{ai}{B}{ah:Nat->n O}(z:c9 d l=f (.cells eL ai))(x:c9 u ai=f (.c (.C m B 0 ah)))(C:g q D be (.code r::av) .normal F ((l++[an.q W h 0 b]).set d (.cells eL (ai.set u (.S (c l) (.C 0 h 0 0)))))):g q D be (.code r::av) .normal F l:=by
 refine g.aU (λe aq J bQ=>?_) C;have aG:=er z;have T:=er x;have H:d<c l:=(cO.1 aG).1;have ad:d<c e.t:=h0;have I:=bG ad;generalize e.t[d]=L at I;obtain⟨o,A,ak,X,M,R⟩:=bQ.box d _ L aG I;obtain⟨au,U,S⟩:=M.get T;let i:Loc:=⟨.slice p 0 0,[]⟩
 obtain⟨K,G⟩:=bQ.b2 (bY:=.q W h 0 b) (L:=i) (.refl _ _) rfl bQ (.inl ⟨rfl,rfl⟩) N;have Q:(l++[an.q W h 0 b])[d]?=f (.cells eL ai):=N;have ae:(e.t++[i])[d]?=f L:=N;have ab:(e.t++[i]).set d L=e.t++[i]:=m4;have y:fJ (.cells eL ai) L (.cells eL (ai.set u (.S (c l) (.C 0 h 0 0)))) L:=rfl;have aa:ey ((l++[an.q W h 0 b]).set d (.cells eL (ai.set u (.S (c l) (.C 0 h 0 0))))) ⟨(e.t++[i]).set d L,e.E,e.a,e.own⟩ (.cells eL (ai.set u (.S (c l) (.C 0 h 0 0)))) L:=by
  rw[ab];refine⟨o,A,ak,X,?_,R⟩;have s:fm (l++[an.q W h 0 b]) {e with t:=e.t++[i]} ((l++[an.q W h 0 b]).set d (.cells eL (ai.set u (.S (c l) (.C 0 h 0 0))))) {e with t:=e.t++[i]}:=by
   refine⟨λ_ _ _ t=>t,λZ bY L ao aj=>?_⟩;by_cases ar:d=Z
   .grind
   exact⟨bY,L,by grind,aj,.refl _ _⟩
  have Y:bO (l++[an.q W h 0 b]) {e with t:=e.t++[i]} A ai:=M.mono G.ext bQ.len;exact bO.set (Y.mono s K.len) U (DL (W:=W) (V:=b) S N (by simp[<-bQ.len,i]))
 obtain⟨aP,E⟩:=K.cc (ce:=e.E) (bj:=e.a) (cp:=L) Q ae y (bE _) (λ_ _ _=>rfl) (λ_ _ _ _=>rfl) (λ_ _ _ t=>t) bQ.mem (λo k=>⟨.inl k,bQ.lt L (ca I) o k⟩) rfl rfl rfl aa;have j:=G.trans E;exact⟨⟨(e.t++[i]).set d L,e.E,e.a,e.own⟩,a,⟨J.size,J.defers.imp λ_ w=>w.mono j.ext,λag=>(J.aK ag).mono j.ext bQ.len⟩,aP,j⟩
end
def hA:Nat->(Nat->n O)->Nat->n O
 |0,a=>a
 |b+1,a=>fA (b+1) a
def yY(s)(a:Nat->n O)(e):hA s a e=a (s+e):=by cases s<;>simp[hA,fA]
def xS(h g j:Nat)(b:Nat->n O)(a:Q):Option (Q×n Prop):=match l2 h a with
 |true=>f (a,[])
 |false=>match a with
  |.S e (.C l d k i)=>match af e h,af d g with
   |true,m=>f (.c (.C v g i (hA k b)),[l=j,k+i<=j])
   |_,_=>p
  |_=>p
def xU(g e h:Nat)(a:Nat->n O):n Q->Option (n Q×n Prop)
 |[]=>f ([],[])
 |i::l=>match xS g e h a i with
  |some (b,j)=>match xU g e h a l with
   |some (d,k)=>f (b::d,gD j k)
   |none=>p
  |none=>p
def u5(h g i:Nat)(b:Nat->n O):E1->Option (E1×n Prop)
 |.R d=>match xS h g i b d with|some (d,e)=>f (.R d,e)|none=>p
 |.agg a=>match xU h g i b a with|some (a,e)=>f (.agg a,e)|none=>p
def xT(g e h:Nat)(a:Nat->n O):n E1->Option (n E1×n Prop)
 |[]=>f ([],[])
 |i::l=>match u5 g e h a i with
  |some (b,j)=>match xT g e h a l with
   |some (d,k)=>f (b::d,gD j k)
   |none=>p
  |none=>p
def u4(h g i:Nat)(b:Nat->n O):y->Option (y×n Prop)
 |.p e=>match u5 h g i b e with|some (e,d)=>f (.p e,d)|none=>p
 |.ae a=>match xT h g i b a with|some (a,d)=>f (.ae a,d)|none=>p
 |.any=>f (.any,[])
section
variable {aO:n an}{b7:a5}{W h:Nat}
structure m6(aO:n an)(W h j:Nat)(V:Nat->n O)(b b7:a5):Prop where
 a6:∀aa w,cx (aO++[.q W h j V]) b aa w->l2 (c aO) w=m->cx aO b7 aa w
 e2:∀aa gb s z,cx (aO++[.q W h j V]) b aa (.S (c aO) (.C j gb s z))->gb=h->s+z<=j->Rd b7.E aa (.C v h z (hA s V))
def m6.cF(l:m6 aO W h j V b b7){aa}{w i}{ab}(g:xS (c aO) h j V w=f (i,ab))(o:U ab)(n:cx (aO++[.q W h j V]) b aa w):cx aO b7 aa i:=by
 unfold xS at g;split at g
 .rename_i r;cases g;exact l.a6 aa w n r
 split at g
 .rename_i t B q s z _;split at g
  .rename_i d e;cases g;have d:=di d;have e:=di e;subst d e;obtain⟨rfl,k⟩:B=j/\s+z<=j:=o;exact l.e2 aa _ _ _ n a k
  grind
 grind
def m6.fy(l:m6 aO W h j V b b7):∀{A:n Z}{d a:n Q}{e:n Prop},xU (c aO) h j V d=f (a,e)->U e->bO (aO++[.q W h j V]) b A d->bO aO b7 A a
 |[],[],_,_,g,_,_=>by cases g;trivial
 |[],_::_,_,_,_,_,i=>i.elim
 |_::_,[],_,_,_,_,i=>i.elim
 |u::A,r::d,a,e,g,k,i=>by
  simp[xU]at g;split at g
  .rename_i o s cS;split at g
   .rename_i q t dq;cases g;rw[U.Y]at k;exact⟨l.cF cS k.1 i.1,l.fy dq k.2 i.2⟩
   grind
  grind
def m6.p(i:m6 aO W h j V b b7){k g}(a:u5 (c aO) h j V k=f (g,ab))(e:U ab)(l:ez (aO++[.q W h j V]) b aa k):ez aO b7 aa g:=by
 cases k with
 |R s=>
  simp[u5]at a;split at a
  .rename_i d r cS;cases a;exact i.cF cS e l
  grind
 |agg n=>
  simp[u5]at a;split at a
  .rename_i d r cS;cases a;obtain⟨A,q,o⟩:=l;exact⟨A,q,i.fy cS e o⟩
  grind
def m6.g4(l:m6 aO W h j V b b7):∀{A:n Z}{d a:n E1}{e:n Prop},xT (c aO) h j V d=f (a,e)->U e->eV (aO++[.q W h j V]) b A d->eV aO b7 A a
 |[],[],_,_,g,_,_=>by cases g;trivial
 |[],_::_,_,_,_,_,i=>i.elim
 |_::_,[],_,_,_,_,i=>i.elim
 |u::A,r::d,a,e,g,k,i=>by
  simp[xT]at g;split at g
  .rename_i o s cS;split at g
   .rename_i q t dq;cases g;rw[U.Y]at k;exact⟨l.p cS k.1 i.1,l.g4 dq k.2 i.2⟩
   grind
  grind
def m6.da(g:m6 aO W h j V b b7){k r}(a:u4 (c aO) h j V k=f (r,ab))(e:U ab)(i:bx (aO++[.q W h j V]) b aa k):bx aO b7 aa r:=by
 cases k with
 |p k=>
  simp[u4]at a;split at a
  .rename_i d o cS;cases a;exact g.p cS e i
  grind
 |ae q=>
  simp[u4]at a;split at a
  .rename_i d o cS;cases a;obtain⟨A,n,l⟩:=i;exact⟨A,n,g.g4 cS e l⟩
  grind
 |any=>cases a;trivial
def bd.e2(l:bd (aO++[.q W h j V]) b)(aw:ko (c aO) aO=m):
  ∃w:a5,bd aO w/\eY b w/\m6 aO W h j V b w/\∀{s:n an} {R:a5},dd s R (aO++[.q W h j V]) b->s.length<=c aO->dd s R aO w:=by
 have aG:(aO++[an.q W h j V])[c aO]?=f (.q W h j V):=E;have G:c b.t=c aO+1:=by rw[l.len];simp
 have X:b.t[c aO]?=f b.t[c aO]:=bG x;generalize b.t[c aO]=L at X;have aJ:=l.box _ _ L aG X;obtain⟨ce,ak,O,y,aC⟩:∃ce:Mem,(∀i d g,b.E i d=f g->ce i d=f g)/\(∀i,i∉L.al->∀d,ce i d=b.E i d)/\(∀i d g,ce i d=f g->b.a.cell? ⟨i,d,p⟩=f g) /\
   (∀g e d z,cx (aO++[.q W h j V]) b g (.S (c aO) (.C j e d z))->e=h->d+z<=j->Rd ce g (.C v h z (hA d V))):=by
  rcases aJ with⟨rfl,rfl⟩|⟨i,aD,A,aN,rfl,bq,aR,ad,D,H,aH⟩
  .refine⟨b.E,λ_ _ _ aF=>aF,λ_ _ _=>rfl,l.mem,λg e d z M F aa=>?_⟩;obtain⟨ae,⟨ar,Z,S,aD,I,T,ab,aA,av,ax⟩,_,ao⟩:=M;grind[Rd.dL]
  let ce:Mem:=λr d=>if r=i then A[d]? else b.E r d;have aq:∀r d g,b.E r d=f g->ce r d=f g:=λr d g I=>by grind
  refine⟨ce,aq,λr aQ d=>N,λr d g I=>?_,λg e d z M F aa=>?_⟩
  .by_cases F:r=i
   .subst F;simp[ce,dH]at I;simp[aM,bq];grind
   simp[ce,F,dh]at I;exact l.mem r d g I
  subst F;obtain⟨ae,⟨ar,Z,S,aE,I,T,ab,aA,av,ax⟩,_,ao⟩:=M;obtain⟨cp,Y,au⟩:=(ao _ _ _ _ aG).2 rfl;rw[X]at Y;cases Y;rw[av]at au;cases au;rw[I];have Q:∀q,q<z->∀u B,(hA d V q)[u]?=f B->∃ai,A[(d+q)*e+u]?=f ai/\Rd b.E ai B:=λq t u B o=>by rw[yY]at o;exact H.rd (d+q) x u B o
  refine .C i (d*e) (λq u=>(A[(d+q)*e+u]?).getD K) T x E (λq t=>by rw[yY];exact H.bJ _ x) (λaI=>N) (λq t u B o=>N) (λq t u B o=>?_);obtain⟨ai,az,aP⟩:=Q q t u B o;rw[az];exact aP.mono aq
 have aK:(aO++[an.q W h j V]).set (c aO) .M=aO++[.M]:=E;obtain⟨aj,J⟩:=l.cc (ce:=ce) (bj:=b.a) (ec:=.M) (cp:=⟨L.v,[]⟩) aG X C (bE _) (λ_ _ _=>rfl) (λi _ k d=>O i k d) ak y E rfl rfl rfl C;rw[aK]at aj J;have ag:=aj.drop (bs:=[.M]) aw;refine⟨_,ag,⟨a,ak,λi k d=>O i (k L (ca X)) d,y,λi k=>?_⟩,⟨λg ar M aL=>?_,λg e d z M F aa=>aC g e d z M F aa⟩,λ{s R} ah U=>(ah.trans (J.too' l)).drop (bs:=[.M]) U⟩
 .rcases k with k|⟨cp,Y,k⟩
  .exact .inl k
  have:=hh Y;grind
 exact(M.mono J.ext l.len).drop (bs:=[.M]) aL
end
def bk.bQ{C:ag P}{D}{args}{b:ι->y}{aO:ι->n an}{W h}{j:ι->Nat}{V:ι->Nat->n O}(E:bk C D args l res (λa=>aO a++[.q W h (j a) (V a)])){i:ι->n Prop}(M:∀a,u4 (c (aO a)) h (j a) (V a) (res a)=f (b a,i a))(K:∀a,U (i a))(J:∀a,ko (c (aO a)) (aO a)=m)(I:∀a,c l<=c (aO a)):bk C D args l b aO:=by refine⟨E.1,λN A x u F r t=>E.2 N A x u F r λa s R Q w d g B=>?_⟩;obtain⟨z,k,e,o,q⟩:=g.e2 (J a);exact .aU e (t a s R z (w.mono e.mem) (o.da (M a) (K a) d) k (q B (I a)))
def Y.bQ{P:aI}{b:ag P}{d}{args}{l}{res a}{aO}{W h j}{V:Nat->n O}(o:Y b d args l res (aO++[.q W h j V])){ab}(k:u4 (c aO) h j V res=f (a,ab))(i:U ab)(g:ko (c aO) aO=m)(e:c l<=c aO):Y b d args l a aO:=
 (bk.bQ (ι:=Unit) o.tocF (λ_=>k) (λ_=>i) (λ_=>g) (λ_=>e)).toY
section
def Yv(t:s.op=.call {callee:=.builtin .clear,args:=#[k],argTypes:=#[o]})(a:aA->Z):
  ac a s=(do pure (.value (<-Builtin.clear_ #[o] s.type #[a k]))):=RT
def afG{a:Z}{b}{h}(k:a.cells.toList.map lL=b.map f)(e:c b=h):e1 bD h z (λ_=>b) (Builtin.zeroCells a.cells z).toList:=by
 have j:a.cells.size=h:=by have:=eN List.length k;grind
 have r:bO [] ⟨[],bD,default,λ_=>False⟩ a.cells.toList (b.map Q.c):=ux k;refine⟨by simp[Builtin.zeroCells,j],λ_ _=>e,λg d u n B=>?_⟩;have y:u<h:=N;obtain⟨i,t,s⟩:=r.get (u:=u) (w:=Q.c n) N;refine⟨i,?_,s⟩;have q:g*h+u<z*h:=by
  have:g*h+h<=z*h:=by rw[<-pa];exact gX h d
  omega
 have l:(g*h+u) % h=u:=by grind[Nat.add_mul_mod_self_right,Nat.mod_eq_of_lt]
 have A:u<a.cells.size:=x;have C:a.cells[u]=i:=N;have o:a.cells[u]! = i:=N;simp[Builtin.zeroCells,j,q,l,o]
def a0.eY(aV:bn P ad)(aR:s.op=.call {callee:=.builtin .clear,args:=#[k],argTypes:=#[o]}){e}(T:b1 ad o=f e)(aM:e.desc=.slice W)(R:b1 ad W=f a4){b}{y}(aa:η k=cz d (.C j a4.size b z))(r:l[d]?=f (.q y a4.size j V))(an:b+z<=j):
  a0 P s η l .any (l.set d (.q y a4.size j (nS b (b+z) a4.zero V))):=by
 intro t ak q X;have n:=X k;rw[aa]at n;change cx l t (ak k) (.S d _)at n;obtain⟨aT,⟨aw,aN,az,aQ,Z,aC,aD,aE,aP,aK⟩,_,G⟩:=n;obtain⟨L,J,ag⟩:=(G _ _ _ _ r).2 rfl;rw[aP]at ag;have B:=(aV o e T).eN;rw[aM]at B;rw[Yv aR,Z];by_cases U:z=0
 .subst U;have ab:nS b (b+0) a4.zero V=V:=by funext u;simp only[nS];grind
  have Y:l.set d (.q y a4.size j V)=l:=m4;rw[ab,Y];refine⟨.value (.tuple #[]),t,?_,C,q,.refl _ _,?_⟩
  .cases aw<;>simp[Builtin.clear_,run_underlying B]
  intro i g;cases aw<;>simp[Builtin.clear_,run_underlying B,aF]at g
 obtain⟨ax,rfl,rfl⟩:=aK x;rcases q.box d _ L r J with⟨_,rfl⟩|⟨aO,g2,A,F,rfl,K,aJ,av,aL,au,ao⟩
 .cases ag
 cases ag;obtain⟨aI,h,ar,aW,aX,aq,ai,aZ,aj⟩:=(aV W a4 R).dc;have ae:=afG (bD:=t.E) (z:=z) ai aj;have a1:=ae.len;have aH:=au.len;have aS:b*a4.size+z*a4.size<=j*a4.size:=by rw[<-jH];exact gX _ an
 have D:=au.hP ae an;have S:(λe=>if b<=e/\e<b+z then(λ_=>a4.zero) (e-b)else V e)=nS b (b+z) a4.zero V:=rfl;rw[S]at D;obtain⟨ah,a⟩:=q.gC r J aJ av aL K D N ao;have aA:=ae.cell;have M:=run_storeCells_at P ax (b*a4.size) y (Builtin.zeroCells h.cells z).toList 0 (A++F).toArray t.a K N aA;have O:((A++F).toArray.toList.take (b*a4.size+0)++(Builtin.zeroCells h.cells z).toList++(A++F).toArray.toList.drop (b*a4.size+0+(Builtin.zeroCells h.cells z).toList.length))=A.take (b*a4.size)++(Builtin.zeroCells h.cells z).toList++A.drop (b*a4.size+(Builtin.zeroCells h.cells z).toList.length)++F:=N;rw[O]at M;have Q:∀w,(zeroValue W).run P w=.ok h w:=λw=>by simp[zeroValue,typeInfo,ar,aq]
 have H:∀w V,(zeroValue W).events P w V=V:=λw V=>by simp[zeroValue,typeInfo,ar,aq,aF]
 obtain⟨I,rfl⟩:∃I,z=I+1:=⟨z-1,by omega⟩
 refine⟨.value (.tuple #[]),_,?_,C,ah,a,?_⟩
 .simp[Builtin.clear_,run_underlying B,Q,M]
 intro i g;have aU:i∈(storeCells ⟨ax,b*a4.size,p⟩ (Builtin.zeroCells h.cells (I+1)).toList).events P t.a #[]:=by simp only[Builtin.clear_,aF,j9,nc]at g;simpa[run_underlying B,Q,H,M]using g
 rcases nn (Builtin.zeroCells h.cells (I+1)).toList 0 (A++F).toArray t.a #[] K N aA i aU with aG|⟨u,_,_,rfl⟩
 .grind
 exact ow (ca J) E (ao _)
end
section
variable {q:ag P}
theorem g.hg{h}(J:∀e i,bZ D l e F i->bd l e->∃a:a5,a.a=e.a/\bZ D ao a h i/\bd ao a/\cN l e ao a)(N:g q D be (.aj all bs::av) .normal h ao):g q D be (.aj all bs::av) .normal F l:=by intro e i M b B u o A idx t d s;obtain⟨a,K,C,y,x⟩:=J e i M b;have z:=x.too' b;refine .aU (.of b y K z) ?_;exact N a i C y B u o A idx t d λE k w n O I r j=>s E k w n O I r (z.trans j)
def g.dJ(o)(W h)(dK:Nat->n O){e}{r:Nat->n O}(t:look F o=aw (.C m e 0 r))(i:g q D be (.aj all bs::av) .normal ((o,cz (c l) (.C 0 h 0 0))::F) (l++[.q W h 0 dK])):g q D be (.aj all bs::av) .normal F l:=by
 refine g.hg (λj u a bQ=>?_) i;have B:=a.aK o;rw[t]at B;obtain⟨s,b⟩:=bQ.b2 (bY:=.q W h 0 dK) (L:=⟨.slice p 0 0,[]⟩) (.refl _ _) rfl bQ (.inl ⟨rfl,rfl⟩) E;refine⟨{j with t:=j.t++[⟨.slice p 0 0,[]⟩]},rfl,⟨a.size,a.defers.imp λ_ d=>d.mono b.ext,λk=>?_⟩,s,b⟩;simp only[look];cases cT:af o k with
 |false=>exact(a.aK k).mono b.ext bQ.len
 |true=>
  exact Qu
def g.ez(aV:bn P ad){B u}(N:s.op=.binOp .eql o k (.const (.slice p B u)) ty){e}(E:b1 ad o=f e)(ai:e.desc=.slice W){eU}{h}(U:bF F k=aw (.C eU h j V))(X:s.guard=p)(O:fg D s.dst=m)(J:∀i:Bool,(i=m->j=0)->g q D be (.aj all bs::av) .normal (fW s.dst (aw (.bool i)) F) l):g q D be (.aj all (s::bs)::av) .normal F l:=by
 refine g.cJ (ι:={i:Bool // i=m->j=0}) (λi=>aw (.bool i.1)) (λ_=>l) X O (λr M T C=>?_) λi=>J i.1 i.2;have x:=eO T k;rw[U]at x;obtain⟨b,d,A,x,_,_,_,_,I⟩:=(b8 x).b3;have z:=(aV o e E).eN;rw[ai]at z;have S:=b8 (by have:=eO T k;rw[U]at this;exact this);have ah:b.isNone=m->j=0:=by
  intro ae;rw[x]at S;cases S with
  |C i R aj ak aa ag ab Z I n=>
   grind
 refine⟨⟨b.isNone,ah⟩,.value (.bool b.isNone),r,.bool b.isNone,?_,.inl a,Rd.bool,C,.refl _ _,?_⟩
 .have n:(binOp .eql o (.slice b j d) (.slice p B u)).run P r.a=.ok (.bool b.isNone) r.a:=Go.Lib.run_eql_slice_nil r.a o W b j d B u z;have K:∀y,eqGuard .eql o k y (.slice b j d) (.slice p B u)=pure ():=λy=>by simp[eqGuard]
  have w:M.eval (.const (.slice p B u))=.slice p B u:=rfl;simp[ac,N,x,w,K];simp[n]
 have Q:∀V,(Op.equal o (.slice b j d) (.slice p B u)).events P r.a V=V:=λV=>by show(aQ (9999+1) o _ _).events P r.a V=V;unfold aQ;cases b<;>simp[underlying,z]
 have n:(Op.equal o (.slice b j d) (.slice p B u)).run P r.a=.ok b.isNone r.a:=by show(aQ (9999+1) o _ _).run P r.a=_;grind[Go.Lib.run_equalIn_slice_nil]
 have K:∀y,eqGuard .eql o k y (.slice b j d) (.slice p B u)=pure ():=λy=>by simp[eqGuard]
 have w:M.eval (.const (.slice p B u))=.slice p B u:=rfl;intro Y t;exfalso;simp[ac,N,x,w,K,binOp]at t;simp[n,Q,aF]at t
end
def fR(a:n UInt8):n Z:=a.map λb=>.int .u8 b.toNat
theorem Nr{ah}:c (fR ah)=c ah:=by simp[fR]
def ae4{ah i}:fR (ah++i)=fR ah++fR i:=by simp[fR]
def jK(b:Option (Nat×Nat))(e:Nat):Z:=match b with|none=>.slice p 0 0|some (d,a)=>.slice (f ⟨d,0,p⟩) e a
def eI(r q:aq)(s:Bool)(h:Z)(i:Option (Nat×Nat))(b:n UInt8)(l:Nat):Z->(Nat->Option Obj)->Prop:=λo d=>
 ∃g,o=.pointer (f ⟨g,0,p⟩)/\dY h=m/\d g=f (.cells #[if s then o else .pointer p,h] r (0,0)) /\
 match i with
 |none=>b=[]/\∀e,(d e).isSome=m↔e=g
 |some (j,a)=>j≠g/\c b<=a/\0<a/\a<=9223372036854775807/\l<=c b/\(∃k,c (fR b++k)=a/\d j=f (.cells (fR b++k).toArray q (0,l)))/\∀e,(d e).isSome=m↔e=g∨e=j
section
variable {q:ag P}{h:n (Nat×bv)}{ad:aq}{w:Bool}{v1:Z}{bP:Option (Nat×Nat)}{ah:n UInt8}{ae:Nat}
structure m5(P:aI)(l:n an)(b:a5)(d:Nat)(ad W:aq)(w:Bool)(v1:Z)(bP:Option (Nat×Nat))(ah:n UInt8)(ae:Nat)(L:Loc)(i:Nat)(cH:Nat->Option Obj):Prop where
 t:b.t[d]?=f L
 v:L.v=.pointer (f ⟨i,0,p⟩)
 gb:eI ad W w v1 bP ah ae L.v cH
 heap:∀(i:Nat) (s:Obj),cH i=f s->b.a.heap[i]?=f s
 al:∀i,i∈L.al↔(cH i).isSome=m
 E:∀i∈L.al,∀s,b.E i s=p
 cH:cH i=f (.cells #[if w then L.v else .pointer p,v1] ad (0,0))
 cell:dY v1=m
def eI.row(bQ:bd l b)(k:l[d]?=f (.J (eI ad W w v1 bP ah ae))):∃L e a,m5 P l b d ad W w v1 bP ah ae L e a:=by have o:d<c b.t:=h0;have g:=bG o;generalize b.t[d]=L at g;obtain⟨a,n,h,i,s⟩:=bQ.box d _ L k g;have q:=n;obtain⟨e,r,t,j,_⟩:=q;exact⟨L,e,a,g,r,n,h,i,s,j,t⟩
def m5.mem{L}(a:m5 P l b d ad W w v1 bP ah ae L i lc):i∈L.al:=(a.al i).2 (by rw[a.cH];rfl)
def m5.ptr{L}(g:m5 P l b d ad W w v1 bP ah ae L i lc)(h:bx l b aa (aD d off)):aa=.pointer (f ⟨i,off,p⟩):=by obtain⟨_,j,k,a,e,rfl⟩:=(h:cx l b aa (.ptr d off));rw[g.t]at a;cases a;rw[g.v]at e;grind
def Bh(aV:bn P h){e}(x:s.op=.load o k)(q:b1 h o=f e)(C:e.agg=v)(O:l[d]?=f (.J (eI ad W w v1 bP ah ae))){u}(E:η k=aD d off)(Q:∀a L b g,bd l a->m5 P l a d ad W w v1 bP ah ae L b g->∃n,(#[if w then L.v else .pointer p,v1]:Array Z)[off]?=f n/\bx l a n u):a0 P s η l u l:=by
 refine .dw λa r B G=>?_;obtain⟨L,b,g,i⟩:=eI.row (P:=P) B O;have A:=i.ptr (by have:=G k;rwa [E]at this);obtain⟨n,H,M⟩:=Q a L b g B i;have I:a.a.cell? ⟨b,off,p⟩=f n:=by simp only[aM,i.heap _ _ i.cH];grind
 have t:(loadVar o ⟨b,off,p⟩).run P a.a=.ok n a.a:=by simp[loadVar,(aV o e q).ew,C,run_load,I]
 refine⟨n,by simp[ac,x,A,Instr.loadAt,Instr.sureAddr,t],M,λz y=>?_⟩;have K:z∈(loadVar o ⟨b,off,p⟩).events P a.a #[]:=by
  have F:ac r s=(do pure (.value (<-loadVar o ⟨b,off,p⟩))):=by simp[ac,x,A,Instr.loadAt,Instr.sureAddr]
  rw[F]at y;simpa[t]using y
 obtain⟨J,D,rfl⟩:=pp (aV o e q) (j:=1) (λJ D=>by grind) N z K;exact qt (ca i.t) i.mem
def a0.eV(aV:bn P h){e}(n:s.op=.load o k)(a:b1 h o=f e)(g:e.agg=v)(b:l[d]?=f (.J (eI ad W w v1 bP ah ae)))(j:η k=aD d 1):a0 P s η l (cM v1) l:=
 Bh aV n a g b j λu L t i q r=>⟨v1,by simp,Rd.val r.cell⟩
def abr(e:l[d]?=f (.J H)):∀a,l[d]?=f a->a.dR=v:=by intro a b;rw[e]at b;cases b;rfl
def a0.gK(aV:bn P h){e}(r:s.op=.load o k)(b:b1 h o=f e)(j:e.agg=v)(a:l[d]?=f (.J (eI ad W m v1 bP ah ae)))(q:η k=aD d 0):a0 P s η l (aD d 0) l:=
 Bh aV r b j a q λu L i n t g=>⟨L.v,by simp,abr a,L,i,g.t,g.v,g.v⟩
def a0.ir(aV:bn P h){e}(n:s.op=.load o k)(a:b1 h o=f e)(i:e.agg=v)(b:l[d]?=f (.J (eI ad W v v1 bP ah ae)))(j:η k=aD d 0):a0 P s η l (aw .bb) l:=
 Bh aV n a i b j λu L r g q t=>⟨.pointer p,by simp,Rd.bb⟩
def setRow_size(a:au)(i)(row):(a.setRow i row).heap.size=a.heap.size:=by simp[World.setRow]
def G3(aV:bn P h){e}(ab:s.op=.store o k X)(A:b1 h o=f e)(y:e.size=1)(Y:l[d]?=f (.J (eI ad W w v1 bP ah ae))){r}{t}(M:η k=aD d off)(K:off<2)(F:dY t=m)(I:∀n L i q z,bd l n->m5 P l n d ad W w v1 bP ah ae L i q->bx l n z (η X)->dY z=m/\(#[if w then L.v else .pointer p,v1]:Array Z).setIfInBounds off z=#[if r then L.v else .pointer p,t]):a0 P s η l .any (l.set d (.J (eI ad W r t bP ah ae))):=by
 intro n b E aa;obtain⟨L,i,q,j⟩:=eI.row (P:=P) E Y;have G:=j.ptr (by have:=aa k;rwa [M]at this);obtain⟨O,H⟩:=I n L i q (b X) E j (aa X);have aj:(b X).cells=#[b X]:=by cases D:b X<;>simp[D,dY,Value.cells]at O⊢
 have an:∀z∈[b X],z.oneCell'=m:=by intro z G;simp at G;subst G;cases D:b X<;>simp[D,dY,Value.oneCell']at O⊢
 have R:=j.heap _ _ j.cH;have S:=run_storeCells_at P i off ad [b X] 0 _ n.a R N an;have Q:((#[if w then L.v else .pointer p,v1]:Array Z).toList.take (off+0)++[b X]++(#[if w then L.v else .pointer p,v1]:Array Z).toList.drop (off+0+[b X].length)).toArray=#[if r then L.v else .pointer p,t]:=by
  rw[<-H]
  match off,K with
  |0,_=>grind
  |1,_=>grind
 rw[Q]at S;have az:(n.a.setRow i #[if r then L.v else .pointer p,t]).heap[i]?=f (.cells #[if r then L.v else .pointer p,t] ad (0,0)):=setRow_heap n.a i _ _ ad _ R;have ak:∀g,g≠i->(n.a.setRow i #[if r then L.v else .pointer p,t]).heap[g]?=n.a.heap[g]?:=λg x=>setRow_other n.a i g _ x;obtain⟨V,aP⟩:=E.cf (d:=d) (j7:=eI ad W r t bP ah ae) (cp:=L) (bj:=n.a.setRow i #[if r then L.v else .pointer p,t]) Y j.t rfl (by rw[setRow_size];grind)
  (λg x J=>ak g (by rintro rfl;exact J j.mem)) (λg x=>.inl x)
  ⟨λg=>if g=i then f (.cells #[if r then L.v else .pointer p,t] ad (0,0))else q g,by
   obtain⟨C,U,au,av,aw⟩:=j.gb;have:C=i:=by rw[j.v]at U;grind
   subst this;have ax:∀g,(if g=C then f (Obj.cells #[if r then L.v else .pointer p,t] ad (0,0))else q g).isSome=m↔(q g).isSome=m:=N;refine⟨C,U,F,by simp,?_⟩;grind,λg ar x=>by
   by_cases u:g=i
   .grind
   .simp only[u,dh]at x;rw[ak g u];exact j.heap _ _ x,λg=>by
   rw[j.al g];by_cases u:g=i
   .subst u;simp[j.cH]
   grind⟩ a a a
 have ao:n.t.set d L=n.t:=by
  apply qg;intro ai;by_cases u:d=ai
  .subst u;rw[io (cO.1 j.t).1,j.t]
  grind
 rw[ao]at V aP;refine⟨.skip,{n with a:=n.a.setRow i #[if r then L.v else .pointer p,t]},?_,rfl,V,aP,?_⟩
 .simp[ac,ab,G,Instr.storeAt,Instr.sureAddr,storeVar,(aV o e A).bk,y,aj,S]
 intro T B;have u:ac b s=(do storeVar o ⟨i,off,p⟩ (b X);pure .skip):=by simp[ac,ab,G,Instr.storeAt,Instr.sureAddr]
 rw[u]at B;have aq:T∈(storeCells ⟨i,off,p⟩ [b X]).events P n.a #[]:=by
  simp only[storeVar,aF,(aV o e A).bk,aj,y,aK,events_sizeOf,d',hs,dh,cI,c7,Sem.events_pure,List.size_toArray,gW]at B;generalize(storeCells ⟨i,off,p⟩ [b X]).run P n.a=j at B;cases j with
  |ok z bj=>simpa using B
  |halt k bj=>simpa using B
 rcases nn [b X] 0 _ n.a #[] R N an T aq with ag|⟨ai,_,_,rfl⟩
 .grind
 exact ow (ca j.t) j.mem (j.E _ j.mem _)
def a0.gh(aV:bn P h){e}(n:s.op=.store o k X)(a:b1 h o=f e)(j:e.size=1)(b:l[d]?=f (.J (eI ad W w v1 bP ah ae))){r}(y:η k=aD d 1)(t:η X=cM r)(u:dY r=m):a0 P s η l .any (l.set d (.J (eI ad W w r bP ah ae))):=
 G3 aV n a j b y x u λB L z i C q A g=>by rw[t]at g;have:=Rd.bp g;grind
def a0.iu(aV:bn P h){e}(t:s.op=.store o k X)(b:b1 h o=f e)(n:e.size=1)(g:l[d]?=f (.J (eI ad W w v1 bP ah ae)))(z:η k=aD d 0)(r:η X=aD d 0)(y:dY v1=m):a0 P s η l .any (l.set d (.J (eI ad W m v1 bP ah ae))):=
 G3 aV t b n g z x y λB L A q C u j i=>by rw[r]at i;have:=j.ptr i;subst this;refine⟨a,?_⟩;rw[<-j.v];rfl
def a0.ih{ad}(n:s.op=.alloc ad)(o:∀j,(zeroValue ad).run P j=.ok (.agg #[.pointer p,.slice p 0 0]) j)(t:∀j g,(zeroValue ad).events P j g=g):a0 P s η l (aD (c l) 0) (l++[.J (eI ad W v (.slice p 0 0) p [] 0)]):=by
 intro b B bQ u;let bj:=b.a.alloc (.cells #[.pointer p,.slice p 0 0] ad);obtain⟨y,w⟩:=bQ.cX (ce:=b.E) (bj:=bj) (by simp[bj]) (λr h=>iR b.a _ h) (λ_ _ _=>rfl) (λr h s A e=>by have:=bQ.block e;omega) rfl rfl rfl;have D:bj.heap.size=b.a.heap.size+1:=by simp[bj]
 have C:bj.heap[b.a.heap.size]?=f (.cells #[.pointer p,.slice p 0 0] ad (0,0)):=lZ b.a _;obtain⟨z,x⟩:=y.b2 w rfl bQ (bY:=.J (eI ad W v (.slice p 0 0) p [] 0)) (L:=⟨.pointer (f ⟨b.a.heap.size,0,p⟩),[b.a.heap.size]⟩)
  ⟨λd=>if d=b.a.heap.size then f (.cells #[.pointer p,.slice p 0 0] ad (0,0))else p,⟨b.a.heap.size,rfl,rfl,by simp,rfl,λd=>by by_cases k:d=b.a.heap.size<;>simp[k]⟩,λd q i=>by
   grind,λd=>by by_cases k:d=b.a.heap.size<;>simp[k],λd i q=>by
   simp at i;subst i;show b.E _ _=p;cases e:b.E b.a.heap.size q with
   |none=>rfl
   |some A=>have:=bQ.block e;omega⟩ (λd i=>by grind)
 refine⟨.value (.pointer (f ⟨b.a.heap.size,0,p⟩)),_,?_,⟨by simp,⟨.pointer (f ⟨b.a.heap.size,0,p⟩),[b.a.heap.size]⟩,b.a.heap.size,?_,a,a⟩,z,x,?_⟩
 .simp[ac,n,Instr.alloc,o,Go.newVar,newRow,Value.cells,bj]
 .exact uh
 simp[ac,n,Instr.alloc,o,t,Go.newVar,newRow];exact .nil
end
end Go.AM
