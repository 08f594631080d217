/- Part 2. No condition. -/
import Derived.Test.YtnamahahdbfodaaGreatDoorA1
import Derived.Test.YtnamahahdbfodaaGreatDoorProg
import Derived.MapKept
import Derived.Maps.RangeRun
import Derived.Laws.MakeOwn
import Derived.Lib.SliceRun
import Derived.Lib.FrozenHead
import Derived.Lib.UnsafeStr
import Derived.Lib.MakeNoZero
set_option linter.all false
set_option maxHeartbeats 8000000
open Go.Proofs
open Go.Proofs.Tryz
open Go.Conc (G)
open List renaming length → c, range → aC, getD_eq_getElem?_getD → al
open Go renaming Value → Z, TypeId → av, Event → aT, undef → K, World → au, Frame → aK, FuncId → a3, execOp → ac, Operand → aB, Program → aI, Goroutine → ak, stepG → aq, Oper → ap
open Option renaming some → h, none → n
open Bool renaming true → f, false → l
open Nat renaming beq → af, ble → ay
open Go.Region renaming wanted → aU, ready → aS
open Go.World renaming cell? → aL
open Go.Sem renaming events_bind → aH
open Go.Result renaming evThen_ok → aJ
open Go.Instr renaming sliceBounds → aX
open Go.Op renaming equalIn → aQ
open Go.Proofs.Tryz renaming prog → V
namespace Go.AM
variable {k A:Nat}{i:Int}{d j e w:Nat}{W:av}{H:Z->(Nat->Option Obj)->Prop}{L:Array Bool}{bB:Mem}{D:Nat}{P:aI}{bq:ak->a5->Prop}{s:Code}{C:ak}{t:ap}{b:a5}{q:av}{aa:Z}{o X:aB}{α:Type}{η:aB->z}{ι:Type}{p:m an}{F:bH}{all:m ap}{dp:Array av}{cap:m N}{cR:m z}{k8:Nat->Option Obj}{ah:m aK}{bg:m (Nat×Bool)}{T:Nat->m N}{cP:aB}{gs:Array ak}{aP:m Nat}{cf:m Prop}{off:Nat}{op:BinOp}{aD:Array ap}{ab:m Prop}{bs:m ap}{az:a5}{ty:av}{val:Nat->Nat->Z}{B:m Z}{bi:au}{ag:Array aB}{ao dd:m an}{res:ι->z}{aM:ι->m an}
section force
variable {R:Type}
def u':N->(N->Option R)->Option R
 |.int g i,a=>a (.int g i)
 |.bool e,a=>a (.bool e)
 |.V o,a=>a (.V o)
 |.S f g i d,a=>a (.S f g i d)
 |.S l g i d,a=>a (.S l g i d)
 |.O b,a=>eV b λb=>a (.O b)
 |.cD p b,a=>eV b λb=>a (.cD p b)
 |.fn m j e,a=>eV j λj=>eV e λe=>a (.fn m j e)
 |k,a=>a k
def Yb(s)(b:N->Option R):u' s b=b s:=by
 cases s with
 |S d=>cases d<;>rfl
 |O a=>simp[u',hu]
 |cD d a=>simp[u',hu]
 |fn i e g=>simp[u',hu]
 |_=>rfl
def u_:O->(O->Option R)->Option R
 |.c k,a=>u' k λk=>a (.c k)
 |.ptr b j,a=>a (.ptr b j)
 |.r b d i e,a=>a (.r b d i e)
 |.aR b,a=>a (.aR b)
 |.R b (.S g d j i),a=>a (.R b (.S g d j i))
 |.R b (.bu g d o m),a=>a (.R b (.bu g d o m))
 |.any,a=>a .any
def Jo(a)(b:O->Option R):u_ a b=b a:=by
 cases a with
 |R e d=>cases d<;>simp[u_]
 |_=>simp[u_,Yb]
def yg:m O->(m O->Option R)->Option R
 |[],b=>b []
 |a::d,b=>u_ a λa=>yg d λd=>b (a::d)
def Ya(d)(a:m O->Option R):yg d a=a d:=by
 induction d generalizing a with
 |nil=>rfl
 |cons e g b=>simp[yg,Jo,b]
def yi:E1->(E1->Option R)->Option R
 |.aq b,d=>u_ b λb=>d (.aq b)
 |.agg a,d=>yg a λa=>d (.agg a)
def Jp(a)(b:E1->Option R):yi a b=b a:=by cases a<;>simp[yi,Jo,Ya]
def yj:m E1->(m E1->Option R)->Option R
 |[],b=>b []
 |a::d,b=>yi a λa=>yj d λd=>b (a::d)
def Yc(d)(a:m E1->Option R):yj d a=a d:=by
 induction d generalizing a with
 |nil=>rfl
 |cons e g b=>simp[yj,Jp,b]
def pj:z->(z->Option R)->Option R
 |.n d,b=>yi d λd=>b (.n d)
 |.Q a,b=>yj a λa=>b (.Q a)
 |.any,b=>b .any
theorem va(a)(b:z->Option R):pj a b=b a:=by cases a<;>simp[pj,Jp,Yc]
end force
def qR:z->Option (Bool×Nat×Nat×(Nat->m N))
 |.n (.aq (.c (.S e b d a)))=>h (e,b,d,a)
 |.n (.aq (.r _ b d a))=>h (l,b,d,a)
 |_=>n
theorem tJ{d}{q}{i}(a:qR d=h (q,i,k,T))(p)(b)(aa)(e:bx p b aa d):Rd b.u aa (.S q i k T):=by
 unfold qR at a;split at a
 .cases a;exact e
 .cases a;exact e.1
 grind
def kH(b:m UInt8)(a:Int):UInt8:=b.getD a.toNat 0
def C_(b:m (Nat×bv))(i:av)(a:z):Option z:=
 match bZ b i with
 |none=>n
 |some d=>match d.desc with
  |.slice _=>match qR a with
   |some (_,_,e,_)=>h (ax (.int .i64 e))
   |none=>n
  |.string=>match a with
   |.n (.aq (.c (.V g)))=>h (ax (.int .i64 (c g)))
   |_=>n
  |_=>n
def BO(d:m (Nat×bv))(p o:av)(b:z):Option (z×m Prop):=
 match bZ d p with
 |none=>n
 |some g=>match bZ d o with
  |none=>n
  |some cc=>match cc.desc with
   |.int a=>match b with
    |.n (.aq (.c (.int _ j)))=>h (ax (.int a j),[a7 a j])
    |_=>n
   |.string=>match b with
    |.n (.aq (.c (.V t)))=>h (ax (.V t),[])
    |b=>match g.desc with
     |.slice k=>match bZ d k with
      |some i=>match i.desc with
       |.int .u8=>match qR b with
        |some (_,q,r,e)=>match af q 1 with
         |true=>match uO e 0 r with
          |some s=>h (ax (.V s),[])
          |none=>n
         |false=>n
        |none=>n
       |_=>n
      |none=>n
     |_=>n
   |_=>n
def D8(k:m (Nat×bv))(a:aB->z)(u:av)(q:aB)(j i:Option aB):Option (z×m Prop):=
 match bZ k u with
 |none=>n
 |some s=>match kG a j with
  |none=>n
  |some d=>match kG a i with
   |none=>n
   |some e=>match s.desc with
    |.string=>match a q with
     |.n (.aq (.c (.V p)))=>h (ax (.V (mr p d e)),jf (c p) d e)
     |_=>n
    |.slice r=>match bZ k r with
     |none=>n
     |some b=>match qR (a q)with
      |some (eR,t,o,g)=>match af t b.size with
       |true=>h (ax (.S (xL eR e) b.size (bT o e-bT 0 d) (fx (bT 0 d) g)),jf o d e)
       |false=>n
      |none=>n
    |_=>n
def sK(d:BinOp)(e:IntKind)(g:Int)(b:IntKind)(i:Int):Option (z×m Prop):=
 match uJ d e g b i with
 |some (j,a)=>h (ax (.int e j),a)
 |none=>n
theorem Se{i a}{b j}{e}(g:sK op i b a j=h (e,cf)):∃d,e=ax (.int i d)/\uJ op i b a j=h (d,cf):=by unfold sK at g;grind
def Gq(r:m (Nat×bv))(e:BinOp)(s:av)(u v:z):Option (z×m Prop):=
 match u,v with
 |.n (.aq (.c (.bool b))),.n (.aq (.c (.bool a)))=>match bZ r s with
  |some q=>match q.desc with
   |.bool=>match h9 e (b==a)with
    |some g=>h (ax (.bool g),[])
    |none=>n
   |_=>n
  |none=>n
 |.n (.aq (.c b)),.n (.aq (.c a))=>match e with
  |.xor=>match b,a with
   |.int .i64 b,.int .i64 a=>h (ax (.int .i64 ((b.toNat ^^^ a.toNat:Nat):Int)),[0<=b,0<=a])
   |.int .u64 b,.int d a=>sK .xor .u64 b d a
   |_,_=>n
  |.shl=>match b,a with
   |.int i b,.int d a=>sK .shl i b d a
   |_,_=>n
  |.shr=>match b,a with
   |.int i b,.int d a=>sK .shr i b d a
   |_,_=>n
  |.and=>match b,a with
   |.int i b,.int d a=>sK .and i b d a
   |_,_=>n
  |_=>match xh e b a with
   |some (g,j)=>h (ax g,j)
   |none=>n
 |.n (.agg k),.n (.agg p)=>match bZ r s with
  |some q=>match q.eq with
   |[]=>n
   |t::o=>match qm (t::o) k p with
    |some a=>match h9 e a with
     |some g=>h (ax (.bool g),[])
     |none=>n
    |none=>n
  |none=>n
 |_,_=>n
def yN(e:m (Nat×bv))(A:m (Nat×bL))(a:bH)(O:ap):Option (z×m Prop):=
 match O.op with
 |.move o|.assign o=>h (bF a o,[])
 |.index b o x=>match bZ e b with
  |some k=>match k.desc with
   |.string=>match bF a o,bF a x with
    |.n (.aq (.c (.V s))),.n (.aq (.c (.int _ i)))=>h (ax (.int .u8 (kH s i).toNat),[0<=i,i<c s])
    |_,_=>n
   |_=>n
  |none=>n
 |.indexAddr b o x=>match bZ e b with
  |some k=>match k.desc with
   |.slice M=>match bZ e M with
    |some I=>match qR (bF a o),bF a x with
     |some (_,p,y,q),.n (.aq (.c (.int _ i)))=>match af p I.size with
      |true=>h (ax (.O (q i.toNat)),[0<=i,i<y])
      |false=>n
     |_,_=>n
    |none=>n
   |_=>n
  |none=>n
 |.slice b o J F n=>D8 e (bF a) b o J F
 |.convert w dst o=>BO e w dst (bF a o)
 |.call g=>match g.callee with
  |.builtin .len=>match g.args.toList,g.argTypes[0]? with
   |[o],h b=>match C_ e b (bF a o)with
    |some N=>h (N,[])
    |none=>n
   |_,_=>n
  |.value E=>BA A a E g.args.toList
  |_=>n
 |.pick g t u=>match bF a g with
  |.n (.aq (.c (.bool f)))=>h (bF a t,[])
  |.n (.aq (.c (.bool l)))=>h (bF a u,[])
  |_=>n
 |.binOp r b o x _=>Gq e r b (bF a o) (bF a x)
 |.unOp r _ o=>match bF a o with
  |.n (.aq (.c t))=>match zt r t with
   |some g=>h (ax g,[])
   |none=>n
  |_=>n
 |.extract o i=>match bF a o with
  |.Q K=>match c7 i K with
   |some v=>h (.n v,[])
   |none=>n
  |_=>n
 |.fieldAddr b o D=>match lf e b D with
  |some (p,_)=>match bF a o with
   |.n (.aq (.ptr s j))=>h (aG s (j+p),[])
   |.n (.aq (.c (.O d)))=>h (ax (.O (fR p d)),[])
   |_=>n
  |none=>n
 |.field b o D=>match lf e b D with
  |some (p,i)=>match bF a o with
   |.n (.agg d)=>match hc i (fR p d)with
    |some v=>h (.n v,[])
    |none=>n
   |_=>n
  |none=>n
 |.nilCheck o=>match bF a o with
  |.n (.aq (.ptr s j))=>h (aG s j,[])
  |.n (.aq (.c (.O d)))=>h (ax (.O d),[])
  |_=>n
 |.build b parts=>match xl e (bF a) b parts.toList with
  |some d=>h (.n (.agg d),[])
  |none=>n
 |.buildSlice b y parts=>match rP e (bF a) b y parts.toList with
  |some (p,q)=>h (ax (.S f p y λk=>q.getD k []),[])
  |none=>n
 |.makeFunc fn t u=>match rB (bF a) t.toList with
  |some B=>match rB (bF a) u.toList with
   |some C=>h (ax (.fn fn B C),[])
   |none=>n
  |none=>n
 |.makeInterface b o=>match bZ e b with
  |some k=>match vk k.desc with
   |false=>match yF b (bF a o)with
    |some g=>h (ax g,[])
    |none=>n
   |true=>n
  |none=>n
 |.typeAssert o _ b f=>match bZ e b with
  |some k=>match vk k.desc with
   |false=>match bF a o with
    |.n (.aq (.c g))=>match sI b k g with
     |some (v,u)=>h (.Q [v,.aq (.c (.bool u))],[])
     |none=>n
    |_=>n
   |true=>n
  |none=>n
 |_=>n
def Dc(i:m (Nat×bv))(g:bH)(j:m an)(o:av)(p:aB):Option z:=
 match bZ i o with
 |some e=>match bF g p with
  |.n (.aq (.ptr k b))=>match c7 k j with
   |some (.cells _ a)=>match hc e (fR b a)with
    |some d=>h (.n d)
    |none=>n
   |_=>n
  |.n (.aq (.c (.O a)))=>match hc e (a.map O.c)with
   |some d=>h (.n d)
   |none=>n
  |_=>n
 |none=>n
def Ds(o:m (Nat×bv))(b:bH)(J:ap):Option (z×m Prop):=
 match J.op with
 |.indexAddr k g w=>match bZ o k with
  |some a=>match a.desc with
   |.slice r=>match bZ o r with
    |some e=>match bF b g,bF b w with
     |.n (.aq (.R t (.S s p v i))),.n (.aq (.c (.int _ d)))=>match af p e.size with
      |true=>h (cz t (.bu s e.size (v+d.toNat) 0),[0<=d,d<i])
      |false=>n
     |.n (.aq (.c (.val (.slice (h ⟨y,j,n⟩) q _)))),.n (.aq (.c (.int _ d)))=>h (ax (.val (.pointer (h ⟨y,j+d.toNat*e.size,n⟩))),[0<=d,d<q])
     |_,_=>n
    |none=>n
   |_=>n
  |none=>n
 |.fieldAddr k g I=>match lf o k I with
  |some (p,_)=>match bF b g with
   |.n (.aq (.R t (.bu s x a v)))=>h (cz t (.bu s x a (v+p)),[])
   |.n (.aq (.c (.val (.pointer (h ⟨y,j,n⟩)))))=>h (ax (.val (.pointer (h ⟨y,j+p,n⟩))),[])
   |_=>n
  |none=>n
 |.nilCheck g=>match bF b g with
  |.n (.aq (.R t (.bu s x a v)))=>h (cz t (.bu s x a v),[])
  |_=>n
 |.slice k g D C n=>match bZ o k with
  |none=>n
  |some a=>match kG (bF b) D with
   |none=>n
   |some u=>match kG (bF b) C with
    |none=>n
    |some F=>match a.desc with
     |.slice r=>match bZ o r with
      |none=>n
      |some e=>match bF b g with
       |.n (.aq (.R t (.S s p v i)))=>match af p e.size with
        |true=>h (cz t (.S s e.size (v+bT 0 u) (bT i F-bT 0 u)),jf i u F)
        |false=>n
       |_=>n
     |_=>n
 |.slice k g n (h w) (h E)=>match bZ o k with
  |none=>n
  |some a=>match a.desc with
   |.slice r=>match bZ o r with
    |none=>n
    |some _=>match qR (bF b g),bF b w,bF b E with
     |some (_,p,q,B),.n (.aq (.c (.int _ d))),.n (.aq (.c (.int _ i)))=>h (ax (.S l p d.toNat B),[0<=d,d<=i,i<=q])
     |_,_,_=>n
   |_=>n
 |.slice k g (h K) (h w) (h E)=>match bZ o k with
  |none=>n
  |some a=>match a.desc with
   |.slice r=>match bZ o r with
    |none=>n
    |some _=>match bF b g,bF b K,bF b w,bF b E with
     |.n (.aq (.R _ (.S _ _ _ q))),.n (.aq (.c (.int _ a))),.n (.aq (.c (.int _ d))),.n (.aq (.c (.int _ i)))=>h (.n (.aq .any),[0<=a,a<=d,d<=i,i<=q])
     |_,_,_,_=>n
   |_=>n
 |.call A=>match A.callee with
  |.builtin .len=>match A.args.toList,A.argTypes[0]? with
   |[g],h k=>match bZ o k with
    |some a=>match a.desc with
     |.slice _=>match bF b g with
      |.n (.aq (.R _ (.S _ _ _ i)))=>h (ax (.int .i64 i),[])
      |.n (.aq (.c (.val (.slice _ q _))))=>h (ax (.int .i64 q),[q<=9223372036854775807])
      |_=>n
     |_=>n
    |none=>n
   |_,_=>n
  |_=>n
 |_=>n
def yy(j:m (Nat×bv))(i:bH)(k:m an)(t:av)(u:aB):Option (z×m Prop):=
 match bZ j t with
 |some b=>match bF i u with
  |.n (.aq (.R s (.bu q r e p)))=>match c7 s k with
   |some (.h _ d g a)=>match af d r with
    |true=>match hc b ((fR p (a e)).map O.c)with
     |some o=>h (.n o,[q=g,e<g])
     |none=>n
    |false=>n
   |_=>n
  |_=>n
 |none=>n
def aey:Nat->m N->Nat->Bool
 |0,a,b=>af (c a) b
 |_+1,_,_=>l
def Eg(v:m (Nat×bv))(r:bH)(j:m an)(w:av)(x y:aB):Option (z×m an×m Prop):=
 match bZ v w with
 |some o=>match bF r x with
  |.n (.aq (.R p (.bu t u i s)))=>match c7 p j with
   |some (.h q e g d)=>match af e u with
    |true=>match mo (bF r y)with
     |some new=>match af (c new) o.size with
      |true=>match h3 new with
       |some b=>match aey s b u with
        |true=>eV (c_.cn p (.h q e g (lp i b d)) j) λa=>h (.any,a,[t=g,i<g])
        |false=>match iU s b (d i)with
         |some k=>eV (c_.cn p (.h q e g (lp i k d)) j) λa=>h (.any,a,[t=g,i<g])
         |none=>n
       |none=>n
      |false=>n
     |none=>n
    |false=>n
   |_=>n
  |_=>n
 |none=>n
def pv(b:m (Nat×bv))(d:m (Nat×bL))(a:bH)(g:m an)(e:ap):Option (z×m Prop):=
 match e.op with
 |.load i j=>match Dc b a g i j with
  |some k=>h (k,[])
  |none=>yy b a g i j
 |_=>match yN b d a e with
  |some o=>h o
  |none=>Ds b a e
def xb(e:m (Nat×bv))(j g:av):Option (av×bv):=
 match bZ e j with
 |none=>n
 |some i=>match bZ e g with
  |none=>n
  |some cc=>match i.desc with
   |.slice b=>match cc.desc with
    |.slice d=>match af d b with
     |false=>n
     |true=>match bZ e b with
      |none=>n
      |some a=>match ay 1 a.bytes,ay 1 a.size with
       |true,f=>h (b,a)
       |_,_=>n
    |_=>n
   |_=>n
def uF(i:m (Nat×bv))(e:aB->z)(p:aB)(o j:av):Option (av×bv×Nat×(Nat->m N)):=
 match xb i o j with
 |none=>n
 |some (g,b)=>match qR (e p)with
  |none=>n
  |some (_,d,k,a)=>match af d b.size with
   |false=>n
   |true=>h (g,b,k,a)
def AK(u:m (Nat×bv))(t:aB->z)(k:m an)(y A:aB)(x v:av):Option (z×m an×m Prop):=
 match uF u t A x v with
 |none=>n
 |some (r,a,j,b)=>match t y with
  |.n (.aq (.c (.S f s d g)))=>match af s a.size with
   |true=>eV (k++[.r r a.size (d+j) (ce d g b)]) λi=>h (.n (.aq (.r (c k) a.size (d+j) (ce d g b))),i,[(d+j)*a.bytes<=140737488355328,d=0∨0<j])
   |false=>match af d 0 with
    |true=>eV (k++[.r r a.size (d+j) (ce d g b)]) λi=>h (.n (.aq (.r (c k) a.size (d+j) (ce d g b))),i,[(d+j)*a.bytes<=140737488355328,d=0∨0<j])
    |false=>n
  |.n (.aq (.r q s d g))=>match c7 q k with
   |some (.r o p e kJ)=>match af o r,af s a.size,af p a.size with
    |true,f,f=>eV (c_.cn q (.r r a.size (d+j) (ce d g b)) k) λi=>h (.n (.aq (.r q a.size (d+j) (ce d g b))),i,[e=d,kJ=g,(d+j)*a.bytes<=140737488355328])
    |_,_,_=>n
   |_=>n
  |.n (.aq (.R q (.S w s 0 d)))=>match c7 q k with
   |some (.h o p e kJ)=>match af o r,af s a.size,af p a.size with
    |true,f,f=>eV (c_.cn q (.h r a.size (e+j) (ce e kJ b)) k) λi=>h (cz q (.S (e+j) a.size 0 (e+j)),i,[w=e,d=e,(e+j)*a.bytes<=140737488355328])
    |_,_,_=>n
   |_=>n
  |_=>n
def Dv(d:m (Nat×bv))(g:m (Nat×bL))(a:bH)(b:m an)(j:ap):Option (z×m an×m Prop):=
 match j.op with
 |.alloc _|.box _ _=>yM d a b j
 |.store k o p=>match yM d a b j with
  |some r=>h r
  |none=>Eg d a b k o p
 |.call e=>match e.callee with
  |.builtin .append=>match e.args.toList,e.argTypes.toList with
   |[o,p],[k,q]=>AK d (bF a) b o p k q
   |_,_=>n
  |.value i=>Bz g a b i e.args.toList
  |_=>n
 |_=>n
def AJ(j:m (Nat×bv))(e:aB->z)(p q:aB)(o k:av):Option (z×m Prop):=
 match uF j e q o k with
 |none=>n
 |some (_,b,i,a)=>match e p with
  |.n (.aq (.c (.S f r d g)))=>match af d 0 with
   |true=>h (ax (.S l b.size (d+i) (ce d g a)),[(d+i)*b.bytes<=140737488355328,d=0∨0<i])
   |false=>n
  |_=>n
def Dt(d:m (Nat×bv))(b:bH)(g:ap):Option (z×m Prop):=
 match g.op with
 |.call a=>match a.callee with
  |.builtin .append=>match a.args.toList,a.argTypes.toList with
   |[j,k],[i,e]=>AJ d (bF b) j k i e
   |_,_=>n
  |_=>n
 |_=>n
def vr:m (Nat×Bool)->Nat->Option Bool
 |[],_=>n
 |(d,b)::e,a=>match af d a with|true=>h b|false=>vr e a
def C4(a:m (Nat×Bool)):Option Nat->Bool
 |none=>l
 |some b=>match vr a (2000000+b)with
  |some f=>f
  |_=>l
def Z7(a:m (Nat×Bool)):Option Nat->Bool
 |none=>l
 |some b=>match vr a (3000000+b)with
  |some f=>f
  |_=>l
def AL(t:av)(a:bv)(d:aB->z)(u:m an)(y A:aB):Option (z×m an×m Prop):=
 match d y,d A with
 |.n (.aq (.R e (.S w x 0 p))),.n (.aq (.R s (.S o q v g)))=>match af s e with
  |false=>n
  |true=>match c7 e u with
   |some (.h i r b k)=>match af i t,af x a.size,af q a.size,af r a.size with
    |true,f,f,f=>eV (c_.cn e (.h t a.size b (qK p v g k)) u) λj=>h (cz e (.S b a.size 0 (p+g)),j,[w=b,o=b,p+g<=b,v+g<=b])
    |_,_,_,_=>n
   |_=>n
 |_,_=>n
def AN(u:Bool)(o:m (Nat×bv))(b:aB->z)(i:m an)(r s:aB)(q p:av):Option (z×m an×m Prop):=
 match u with
 |true=>match uF o b s q p with
  |none=>n
  |some (g,a,e,d)=>match b r with
   |.n (.aq (.c (.S f _ t k)))=>match af t 0 with
    |true=>eV (i++[.h g a.size (0+e) (ce 0 k d)]) λj=>h (cz (c i) (.S (0+e) a.size 0 (0+e)),j,[(0+e)*a.bytes<=140737488355328])
    |false=>n
   |_=>n
 |false=>match xb o q p with
  |none=>n
  |some (g,a)=>AL g a b i r s
def yO(k:Bool)(d:m (Nat×bv))(b:bH)(e:m an)(i:ap):Option (z×m an×m Prop):=
 match i.op with
 |.call a=>match a.callee with
  |.builtin .append=>match a.args.toList,a.argTypes.toList with
   |[o,p],[j,g]=>AN k d (bF b) e o p j g
   |_,_=>n
  |_=>n
 |_=>n
def vC(i:m (Nat×Bool))(e:m (Nat×bv))(b:m (Nat×bL))(d:bH)(g:m an)(a:ap):Option (z×m an×m Prop):=
 match Z7 i a.dst with
 |true=>yO f e d g a
 |false=>match Dv e b d g a with
  |some j=>h j
  |none=>yO l e d g a
def u0(b:m (Nat×Bool))(g:Option Nat)(d:z)(a:m Prop):Option (z×m Prop):=
 match g with
 |none=>h (d,a)
 |some j=>match vr b j with
  |none=>h (d,a)
  |some e=>match d with
   |.n (.aq (.c (.bool i)))=>h (ax (.bool e),gB a [i=e])
   |_=>n
def SY{d}{o X}{b}(a:u0 bg d o cf=h (X,b))(e:U b):X=o/\U cf:=by
 unfold u0 at a;split at a
 .grind
 split at a
 .grind
 split at a
 .cases a;simp_all
 grind
def hA(k:m (Nat×bv))(g:m (Nat×bL))(d:m (Nat×Bool))(i:m ap)(j:bH)(r:m an)(e:ap):Option (z×Option (m an)×m Prop):=
 let go:Option (z×Option (m an)×m Prop):=match pv k g j r e with
  |some (b,a)=>match u0 d e.dst b a with
   |some (q,s)=>pj q λq=>h (q,n,s)
   |none=>n
  |none=>match C4 d e.dst with
   |true=>match Dt k j e with
    |some (b,a)=>pj b λb=>h (b,n,a)
    |none=>n
   |false=>match vC d k g j r e with
    |some (b,o,a)=>pj b λb=>h (b,h o,a)
    |none=>n
 match e.guard with
 |none=>go
 |some (u,t)=>match yo j i u with
  |some (h p)=>match t,p with
   |true,f=>go
   |false,l=>go
   |_,_=>h (.Q [],n,[])
  |some n=>h (.Q [],n,[])
  |none=>n
section
variable {r:aj P}{ad:m (Nat×bv)}{CT:m (Nat×bL)}
def Gg(aR:bn P ad){g}{a4}(j:t.op=.call {callee:=.builtin .append,args:=#[o,X],argTypes:=#[q,g]})(a:xb ad q g=h (W,a4)):j4 P t o X W a4:=by
 unfold xb at a;split at a
 .cases a
 rename_i k i;split at a
 .cases a
 rename_i cc d;split at a
 case h_2=>cases a
 rename_i W r;split at a
 case h_2=>cases a
 rename_i m b;split at a
 .cases a
 rename_i p;have s:=di p;subst s;split at a
 .cases a
 rename_i a4 e;split at a
 case h_2=>cases a
 rename_i u v;cases a;exact⟨⟨q,g,k,cc,j,aR q k i,r,aR g cc d,b⟩,aR _ _ e,by exact lJ,by exact lJ⟩
def AO(aR:bn P ad){j}{a4}{a:Nat->m N}(k:t.op=.call {callee:=.builtin .append,args:=#[o,X],argTypes:=#[q,j]})(b:uF ad η X q j=h (W,a4,A,a)):
  j4 P t o X W a4/\∃d,∀i e g,bx i e g (η X)->Rd e.u g (.S d a4.size A a):=by
 unfold uF at b;split at b
 .cases b
 rename_i s;split at b
 .cases b
 rename_i d v A a p;split at b
 .cases b
 rename_i r;have u:=di r;subst u;cases b;exact⟨Gg aR k s,d,λi e g=>tJ p i e g⟩
theorem R6(aR:bn P ad)(A:∀p m s,bY D p m F s->aU t (yielded all.toArray s.tmps)=f){x}{v}(g:t.op=.call {callee:=.builtin .append,args:=#[o,X],argTypes:=#[q,x]})(a:AJ ad (bF F) o X q x=h (v,cf))(u:U cf):aV r D all t F p v p:=by
 unfold AJ at a;split at a
 .cases a
 rename_i y B I w d;obtain⟨z,C,b⟩:=AO aR g d;have b:=λm E=>b p m E;split at a
 .rename_i i k T j;split at a
  .rename_i e;cases a;exact(aV.a1 A (a0.f' z j (.inr (di e)) b u.1 u.2)).e0
  grind
 grind
theorem R7(aR:bn P ad){D}{E}(u:t.op=.call {callee:=.builtin .append,args:=#[o,X],argTypes:=#[q,D]})(a:AK ad η p o X q D=h (E,ao,cf))(e:U cf):a0 P t η p E ao:=by
 unfold AK at a;split at a
 .cases a
 rename_i I K S F s;obtain⟨j,Q,g⟩:=AO aR u s;have g:=λM R=>g p M R;split at a
 .rename_i i k T b;split at a
  .rename_i bU;rw[hu]at a;cases a;exact a0.f' j b (.inl (di bU)) g e.1 e.2
  split at a
  .rename_i J;rw[hu]at a;cases a;exact a0.f' j b (.inr (di J)) g e.1 e.2
  grind
 .rename_i d i k T b;split at a
  .rename_i W N m kJ gE;split at a
   .rename_i A x B;rw[hu,mP]at a;cases a;obtain⟨v,O,y⟩:m=k/\kJ=T/\_:=e;subst v;subst O;have w:=di A;subst w;have z:=di x;have r:=di B;subst r;subst z;exact a0.ib j b (ej gE) g y
   grind
  grind
 .rename_i d C i k b;split at a
  .rename_i W N m kJ gE;split at a
   .rename_i A x B;rw[hu,mP]at a;cases a;obtain⟨v,O,y⟩:C=m/\k=m/\_:=e;subst v;subst O;have w:=di A;subst w;have z:=di x;have r:=di B;subst r;subst z;exact a0.h_ j b (ej gE) g y
   grind
  grind
 grind
theorem aad(aR:bn P ad){g}(d:t.op=.call {callee:=.builtin .len,args:=#[o],argTypes:=dp})(m:dp[0]?=h q)(a:C_ ad q (η o)=h g):a0 P t η p g p:=by
 unfold C_ at a;split at a
 .cases a
 rename_i u b;split at a
 .rename_i W j;split at a
  .rename_i eR i k T e;cases a;exact a0.jm aR d m b j (λr s=>tJ e p r s)
  grind
 .grind [a0.jo]
 grind
theorem SM(aR:bn P ad){j s}{u}(m:t.op=.convert j s o)(a:BO ad j s (η o)=h (u,cf))(v:U cf):a0 P t η p u p:=by
 unfold BO at a;split at a
 .cases a
 rename_i E g;split at a
 .cases a
 rename_i cc b;split at a
 .rename_i z e;split at a
  .rename_i i w A;cases a;exact a0.iD aR m g b e A v
  grind
 .rename_i e;split at a
  .grind [a0.iE]
  split at a
  .rename_i W C;split at a
   .rename_i a4 q;split at a
    .rename_i y;split at a
     .rename_i eR i k T r;split at a
      .rename_i bU;have x:=di bU;subst x;split at a
       .rename_i F d;cases a;exact a0.iC aR m g b C e q y (λB D=>tJ r p B D) d
       grind
      grind
     grind
    grind
   grind
  grind
 grind
theorem acs(aR:bn P ad){eY bp}{b}(d:t.op=.slice q o eY bp n)(a:D8 ad η q o eY bp=h (b,cf))(e:U cf):a0 P t η p b p:=by
 unfold D8 at a;split at a
 .cases a
 rename_i k g;split at a
 .cases a
 rename_i m j;split at a
 .cases a
 rename_i r i;split at a
 .grind [a0.jX]
 .grind [Nat.eq_of_beq_eq_true,a0.jW,tJ]
 grind
theorem AP{a:Array α}{b:α}(d:a.toList=[b]):a=#[b]:=Array.ext' d
theorem AQ{a:Array α}{b d:α}(e:a.toList=[b,d]):a=#[b,d]:=Array.ext' e
theorem aaS(aR:bn P ad)(L:a8 r CT){I:z}(u:yN ad CT F t=h (I,cf))(m:U cf)(a':∀p x g,bY D p x F g->aU t (yielded all.toArray g.tmps)=f):aV r D all t F p I p:=by
 unfold yN at u;split at u
 .grind [aV.a1,a0.move]
 .grind [aV.a1,a0.assign]
 .rename_i q o X a;split at u
  .rename_i e bp;split at u
   .rename_i B;split at u
    .rename_i d i w b O;cases u;obtain⟨M,K⟩:0<=w/\w<(c d:Int):=m;have:=a0.je (p:=p) (A:=w.toNat) aR a bp B b O y y;have J:kH d w=d[w.toNat]'y:=by simp[kH,al,bI (by omega:w.toNat<c d)]
     grind[aV.a1]
    grind
   grind
  grind
 .rename_i q o X a;split at u
  .rename_i e bp;split at u
   .rename_i W B;split at u
    .rename_i a4 v;split at u
     .rename_i eR i k T S w b O;split at u
      .rename_i bU;cases u;obtain⟨M,K⟩:0<=w/\w<(k:Int):=m;have J:=di bU;subst J;exact aV.a1 a' (a0.indexAddr (A:=w.toNat) aR a bp B v (λx V=>tJ b p x V) O y y)
      grind
     grind
    grind
   grind
  grind
 .grind [aV.a1,acs]
 .grind [aV.a1,SM]
 .rename_i s a;obtain⟨H,args,E⟩:=s;grind[AP,aV.a1,aad,aV.iA]
 .rename_i s g j bc;split at u
  .exact OR
  .exact OR
  grind
 .rename_i op q X Z ty bc;unfold Gq at u;split at u
  .grind [aV.a1,a0.iw]
  .rename_i g j _ N C;split at u
   .split at u
    .rename_i _ _ Q R _ _;cases u;exact aV.a1 a' (a0.kh bc N C m.1 m.2)
    .exact zG
    grind
   .exact zG
   .exact zG
   .exact zG
   grind[aV.a1,a0.binOp]
  .rename_i ah T N C;split at u
   .grind [aV.a1,a0.j6]
   grind
  grind
 .grind [aV.a1,a0.unOp]
 .grind [aV.a1,a0.extract,ej]
 .rename_i q X Y bc;split at u
  .rename_i i w G;split at u
   .rename_i d off b;cases u;exact aV.a1 a' (a0.g7 aR bc b G)
   .grind [aV.a1,a0.g8]
   grind
  grind
 .grind [aV.a1,a0.field]
 .grind [aV.a1,a0.hB,a0.hD]
 .grind [aV.a1,a0.build]
 .grind [aV.a1,a0.buildSlice]
 .grind [aV.a1,a0.makeFunc]
 .grind [aV.a1,a0.makeInterface]
 .grind [aV.a1,a0.typeAssert]
 grind
theorem aaP(aR:bn P ad){J:z}(a:Ds ad F t=h (J,cf))(r:U cf):a0 P t (bF F) p J p:=by
 unfold Ds at a;split at a
 .rename_i q o X b;split at a
  .rename_i e bp;split at a
   .rename_i W O;split at a
    .rename_i a4 m;split at a
     .rename_i d C i K A B w g x;split at a
      .rename_i bU;cases a;obtain⟨N,v⟩:0<=w/\w<(A:Int):=r;grind[Nat.eq_of_beq_eq_true,a0.jc]
      grind
     .rename_i j off k cap B w g x;cases a;obtain⟨N,v⟩:0<=w/\w<(k:Int):=r;grind[a0.jd]
     grind
    grind
   grind
  grind
 .rename_i q o ag b;split at a
  .rename_i i w H;split at a
   .rename_i d C aN e K g;cases a;exact a0.iP aR b g H
   .rename_i j off g;cases a;exact a0.iR aR b g H
   grind
  grind
 .grind [a0.jz]
 .rename_i q o eY bp b;split at a
  .cases a
  rename_i e D;split at a
  .cases a
  rename_i Y aa;split at a
  .cases a
  grind[Nat.eq_of_beq_eq_true,a0.sliceB]
 .rename_i q o X R b;split at a
  .cases a
  rename_i e D;split at a
  .rename_i W O;split at a
   .cases a
   rename_i a4 m;split at a
   .rename_i eR i k T y w L A g x G;cases a;obtain⟨N,v,E⟩:0<=w/\w<=A/\A<=(k:Int):=r;exact a0.jT aR b D O m (λM Q=>tJ g p M Q) x G N v E
   grind
  grind
 .rename_i q o ah X R b;split at a
  .cases a
  rename_i e D;split at a
  .rename_i W O;split at a
   .cases a
   rename_i a4 m;split at a
   .rename_i d C i K k ab e y w L A g Z x G;cases a;obtain⟨N,v,E,V⟩:0<=e/\e<=w/\w<=A/\A<=(k:Int):=r;grind[a0.slice3B]
   grind
  grind
 .rename_i s b;obtain⟨S,args,I⟩:=s;simp only at a;split at a
  .split at a
   .rename_i o q g ar;split at a
    .rename_i e bp;split at a
     .rename_i W O;split at a
      .grind [AP,a0.ji]
      .rename_i ae k cap u;cases a;have:=AP g;subst this;exact a0.jq aR b ar bp O u r
      grind
     grind
    grind
   grind
  grind
 grind
theorem aai(aR:bn P ad)(b:t.op=.load q o){m}(a:yy ad F p q o=h (m,cf))(g:U cf):a0 P t (bF F) p m p:=by
 unfold yy at a;split at a
 .rename_i w bp;split at a
  .rename_i d C i e v s;split at a
   .rename_i W u k T aE;split at a
    .rename_i bU;have r:=di bU;subst r;split at a
     .rename_i r j;cases a;exact a0.e8 aR b s g.1 (ej aE) bp j g.2
     grind
    grind
   grind
  grind
 grind
theorem acU(aR:bn P ad)(j:t.op=.store q o X){y}(a:Eg ad F p q o X=h (y,ao,cf))(r:U cf):a0 P t (bF F) p y ao:=by
 unfold Eg at a;split at a
 .rename_i B bp;split at a
  .rename_i d C i e u s;split at a
   .rename_i W v k T aE;split at a
    .rename_i bU;have z:=di bU;subst z;split at a
     .rename_i new m;split at a
      .rename_i w;split at a
       .rename_i gC b;split at a
        .rename_i A;rw[hu,mP]at a;cases a;have x:u=0/\c gC=v:=by
          cases u with
          |zero=>exact⟨rfl,di A⟩
          |succ u=>exact cQ
         obtain⟨rfl,x⟩:=x;exact a0.h1 aR j s r.1 (ej aE) bp m (di w) b (λD=>Md M) r.2
        split at a
        .rename_i ci g;rw[hu,mP]at a;cases a;exact a0.h1 aR j s r.1 (ej aE) bp m (di w) b (λ_=>g) r.2
        grind
       grind
      grind
     grind
    grind
   grind
  grind
 grind
theorem aaU(aR:bn P ad)(i:a8 r CT){d}(a:pv ad CT F p t=h (d,cf))(g:U cf)(m:∀p e b,bY D p e F b->aU t (yielded all.toArray b.tmps)=f):aV r D all t F p d p:=by
 unfold pv at a;split at a
 .rename_i q X k;split at a
  .rename_i C j;cases a;unfold Dc at j;split at j
   .grind [aV.a1,a0.ho,ej,a0.hp]
   grind
  grind[aV.a1,aai]
 grind[aaS,aV.a1,aaP]
theorem aaQ(aR:bn P ad)(o:a8 r CT){d:z}(e:Dv ad CT F p t=h (d,ao,cf))(j:U cf)(m:∀p i a,bY D p i F a->aU t (yielded all.toArray a.tmps)=f):aV r D all t F p d ao:=by
 unfold Dv at e;split at e
 .grind [aV.a1,Du]
 .grind [aV.a1,Du]
 .grind [aV.a1,Du,acU]
 .rename_i s g;obtain⟨k,args,b⟩:=s;grind[AQ,aV.a1,R7,aV.call]
 grind
def R8{a4}{g}(m:j4 P t o X W a4)(a:AL W a4 η p o X=h (g,ao,cf))(j:U cf):a0 P t η p g ao:=by
 unfold AL at a;split at a
 .rename_i d C i e y v x w A J B;split at a
  .cases a
  rename_i r;have b:=di r;subst b;split at a
  .rename_i N K k T gE;split at a
   .rename_i q DK tv DL;have s:=di q;have I:=di DK;have u:=di tv;have D:=di DL;rw[hu]at a;cases a;obtain⟨O,F,z,E⟩:=j;subst O F s I u D;have:=a0.h' (p:=p) m J B (ej gE) z E;grind[mP]
   grind
  grind
 grind
theorem R9(aR:bn P ad){D}{r}{m}(b:t.op=.call {callee:=.builtin .append,args:=#[o,X],argTypes:=#[q,r]})(a:AN D ad η p o X q r=h (m,ao,cf))(j:U cf):a0 P t η p m ao:=by
 unfold AN at a;split at a
 .split at a
  .cases a
  rename_i u z E s d;obtain⟨v,B,w⟩:=AO aR b d;split at a
  .rename_i i k T g;split at a
   .rename_i e;have x:=di e;subst x;rw[hu]at a;cases a;exact a0.ia v g (λA C=>w _ A C) j
   grind
  grind
 split at a
 .cases a
 rename_i y;exact R8 (Gg aR b y) a j
theorem aaR(aR:bn P ad)(q:a8 r CT){a:z}(b:vC bg ad CT F p t=h (a,ao,cf))(k:U cf)(o:∀p j d,bY D p j F d->aU t (yielded all.toArray d.tmps)=f):aV r D all t F p a ao:=by
 have key:∀g,yO g ad F p t=h (a,ao,cf)->aV r D all t F p a ao:=by
  intro g b;unfold yO at b;split at b
  .rename_i s i;obtain⟨m,args,e⟩:=s;grind[AQ,aV.a1,R9]
  grind
 unfold vC at b;grind[aaQ]
def ee(aR:bn P ad)(J:a8 r CT){j}{ao}(a:hA ad CT bg all F p t=h (j,ao,cf))(z:U cf):aV r D all t F p j (ao.getD p):=by
 have go:(∀p g d,bY D p g F d->aU t (yielded all.toArray d.tmps)=f)->(match pv ad CT F p t with
  |some (b,cf)=>match u0 bg t.dst b cf with
   |some (m,y)=>pj m λm=>h (m,n,y)
   |none=>n
  |none=>match C4 bg t.dst with
   |true=>match Dt ad F t with
    |some (b,cf)=>pj b λb=>h (b,n,cf)
    |none=>n
   |false=>match vC bg ad CT F p t with
    |some (b,ao,cf)=>pj b λb=>h (b,h ao,cf)
    |none=>n)=h (j,ao,cf)->aV r D all t F p j (ao.getD p):=by
  intro O a;split at a
  .rename_i b e K;split at a
   .rename_i m A B;rw[va]at a;cases a;obtain⟨rfl,M⟩:=SY B z;grind[aaU]
   grind
  split at a
  .split at a
   .rename_i b e k;rw[va]at a;cases a;unfold Dt at k;split at k
    .rename_i s x;obtain⟨I,args,q⟩:=s;grind[AQ,R6]
    grind
   grind
  grind[va,aaR]
 unfold hA at a;simp only at a;split at a
 .grind [iY]
 rename_i E u v;split at a
 .rename_i w o;have C:∀p g d,bY D p g F d->aU t (yielded all.toArray d.tmps)=(h w==h u):=λp g d i=>by simp only[aU,v,yp o i]
  split at a
  .grind
  .grind
  cases a;refine aV.hM (λp g d i=>(C p g d i).trans ?_);cases u<;>cases w<;>simp_all
 .rename_i o;cases a;exact aV.hM (λp g d i=>by simp only[aU,v,yp o i];rfl)
 grind
end
variable {CT:m (Nat×bL)}{ar:m ij}{be:fs}{ad:m (Nat×bv)}{a4:bv}
def mD(a:bH)(b:ap):Bool:=match b.op with
 |.load _ d=>match bF a d with
  |.n (.aq (.c (.O _)))=>l
  |_=>f
 |_=>l
def aaT{e_}(d:mD F t=l):pv ad CT F p t=pv ad CT F e_ t:=by
 unfold pv;split
 .rename_i q o a;simp[mD,a]at d;split at d
  .rename_i ah b;simp[Dc,yy,b]
  grind
 simp
def aaV{d}(k:mD F t=l)(a:hA ad CT bg all F p t=h (d,n,cf))(e_):
  hA ad CT bg all F e_ t=h (d,n,cf):=by
 unfold hA at a⊢;simp only at a⊢;rw[aaT (e_:=p) k];cases j:pv ad CT F p t with
 |some o=>grind
 |none=>
  simp[j]at a⊢;cases i:C4 bg t.dst with
  |true=>grind
  |false=>
   simp[i]at a⊢;have key:∀{g:Option (z×Option (m an)×m Prop)},(match vC bg ad CT F p t with|some (e,b,cf)=>pj e λe=>h (e,h b,cf)|none=>n)=g->g≠h (d,n,cf):=by grind[va]
   split at a
   .grind
   grind
def jO(a:Nat):m ap->Bool
 |[]=>l
 |e::b=>match e.dst with
  |some d=>match af d a with|true=>f|false=>jO a b
  |none=>jO a b
theorem vf{q}:∀{d:m ap}{e:Nat}{a:ap},d[e]?=h a->a.dst=h q->jO q d=f
 |[],_,_,u,_=>by grind
 |i::g,0,a,u,b=>by simp at u;subst u;simp[jO,b,sF]
 |i::g,e+1,a,u,b=>by have:=vf (d:=g) wE b;simp[jO];grind
theorem CP{q}:∀{b:m ap},jO q b=f->∃(e:Nat)(t:ap),b[e]?=h t/\t.dst=h q
 |[],u=>by cases u
 |d::k,u=>by
  simp[jO]at u;split at u
  .rename_i g s;split at u
   .rename_i i;exact⟨0,d,a,by grind[Nat.eq_of_beq_eq_true]⟩
   exact QP
  exact QP
def kO:m ap->Bool
 |[]=>f
 |d::a=>match d.dst with
  |some b=>match jO b a with|true=>l|false=>kO a
  |none=>kO a
theorem Dr{q}:∀{o:m ap}{g i:Nat}{b d:ap},kO o=f->o[g]?=h b->o[i]?=h d->b.dst=h q->d.dst=h q->g=i
 |[],_,_,_,_,_,u,_,_,_=>by grind
 |p::e,0,0,_,_,_,_,_,_,_=>rfl
 |p::e,0,i+1,b,d,a,j,k,d1,d2=>by simp at j;subst j;simp[kO,d1]at a;grind[vf]
 |p::e,g+1,0,b,d,a,j,k,d1,d2=>by simp at k;subst k;simp[kO,d2]at a;grind[vf]
 |p::e,g+1,i+1,b,d,a,j,k,d1,d2=>by
  have:kO e=f:=by simp[kO]at a;grind
  have s:e[g]?=h b:=M;have r:e[i]?=h d:=M;have t:=Dr this s r d1 d2;omega
def mN(a:m ap):bH->bH
 |[]=>[]
 |(d,e)::b=>match jO d a with|true=>mN a b|false=>(d,e)::mN a b
def tk{all}{q}:∀{b:bH},look (mN all b) q=if jO q all=f then .any else look b q
 |[]=>by simp[mN,look]
 |(a,j)::k=>by
  simp[mN];by_cases g:af a q=f
  .have i:=di g;subst i;cases e:jO a all with
   |true=>simp only;rw[tk];grind
   |false=>simp[look]
  have d:af a q=l:=M;cases e:jO a all with
  |true=>simp only;rw[tk];simp[look,d]
  |false=>simp[look,d,cond];rw[tk]
def c6:m Edge->m Nat
 |[]=>[]
 |b::a=>match b.ground with
  |.textOnly _=>c6 a
  |.gcOnly _=>c6 a
  |_=>b.on::c6 a
theorem l2{w}:∀{d:m Edge},w∈c6 d↔∃a∈d,eN a=f/\a.on=w
 |[]=>by simp[c6]
 |a::b=>by
  have o:=l2 (w:=w) (d:=b);have i:c6 (a::b)=a.on::c6 b->eN a=f->(w∈c6 (a::b)↔∃e∈a::b,eN e=f/\e.on=w):=M;have g:c6 (a::b)=c6 b->eN a=l->(w∈c6 (a::b)↔∃e∈a::b,eN e=f/\e.on=w):=M;cases j:a.ground with
  |textOnly k=>exact g EK NC
  |gcOnly k=>exact g EK NC
  |_=>exact i EK (by unfold eN Region.binds;rw[j])
def nt(a b:Nat):m ap->Bool
 |[]=>l
 |e::d=>match e.dst with
  |some g=>match af g b with
   |true=>match ed a (c6 e.after.toList)with
    |true=>nt a b d
    |false=>f
   |false=>nt a b d
  |none=>nt a b d
def JE{e q}:∀{j:m ap},nt e q j=l->∀(d:Nat)a,j[d]?=h a->a.dst=h q->ed e (c6 a.after.toList)=f
 |[],_,d,a,b,_=>by grind
 |o::k,b,0,a,i,g=>by simp at i;subst i;simp[nt,g,sF]at b;grind
 |o::k,b,d+1,a,i,g=>by
  have:nt e q k=l:=by simp[nt]at b;grind
  exact JE this d a M g
def oC(a:m ap):bH->m (Nat×z×Bool)
 |[]=>[]
 |(b,d)::e=>match jO b a with
  |true=>(b,d,f)::oC a e
  |false=>(b,d,l)::oC a e
def g_(b:Nat)(a:m ap):m (Nat×z×Bool)->bH
 |[]=>[]
 |(e,g,i)::d=>match i with
  |false=>(e,g)::g_ b a d
  |true=>match nt b e a with
   |true=>g_ b a d
   |false=>(e,g)::g_ b a d
def Kd{e}{all}{q}:∀{F:bH},look (g_ e all (oC all F)) q=if jO q all=f/\nt e q all=f then .any else look F q
 |[]=>by simp[oC,g_,look]
 |(bz,b)::a=>by
  have i:=Kd (e:=e) (all:=all) (q:=q) (F:=a);have g:look ((bz,b)::g_ e all (oC all a)) q=if af bz q=f then b else look (g_ e all (oC all a)) q:=Rp;have d:look ((bz,b)::a) q=if af bz q=f then b else look a q:=Rp;cases x:jO bz all with
  |false=>
   simp[oC,x,g_];exact ub
  |true=>
   cases ai:nt e bz all with
   |true=>
    exact Ol
   |false=>
    exact Ol
def fL(d:Nat->Bool):Nat->m (Option Nat×z)->bH->bH
 |_,[],a=>a
 |b,(g,j)::e,a=>match d b with
  |true=>match g with
   |some i=>(i,j)::fL d (b+1) e a
   |none=>fL d (b+1) e a
  |false=>fL d (b+1) e a
def vs{A:Nat->Bool}{F}{q}:∀{d:m (Option Nat×z)}{e:Nat},(∃w b,d[w]?=h (h q,b)/\A (e+w)=f/\look (fL A e d F) q=b)∨look (fL A e d F) q=look F q
 |[],e=>.inr rfl
 |(i,b)::g,e=>by
  have u:=vs (A:=A) (F:=F) (q:=q) (d:=g) (e:=e+1);have step:look (fL A e ((i,b)::g) F) q=look (fL A (e+1) g F) q->((∃w j,((i,b)::g)[w]?=h (h q,j)/\A (e+w)=f/\look (fL A e ((i,b)::g) F) q=j)∨look (fL A e ((i,b)::g) F) q=look F q):=by
   intro p;rw[p];rcases u with⟨w,j,t,k,C⟩|x
   .exact .inl ⟨w+1,j,by grind,by grind,C⟩
   grind
  cases o:A e with
  |false=>exact step (by simp[fL,o])
  |true=>
   cases i with
   |none=>exact step (by simp[fL,o])
   |some r=>
    by_cases v:af r q=f
    .have p:=di v;subst p;exact .inl ⟨0,b,a,by grind,by simp[fL,o,look]⟩
    have s:af r q=l:=M;exact step (by simp[fL,o,look,s])
structure kY where
 a9:Nat
 pre:m (Option Nat×z)
 b:m an
 cc:m (m Bool)
 dB:m Bool
 dD:m Bool
 cy:m Prop
def tl(a:Nat):m Nat->Bool
 |[]=>f
 |b::d=>match Nat.blt b a with|true=>tl a d|false=>l
def Dd{e}:∀{g:m Nat},tl e g=f->∀d∈g,d<e
 |[],_,d,b=>by grind
 |j::k,b,d,a=>by
  simp[tl]at b;cases i:Nat.blt j e with
  |false=>grind
  |true=>
   simp[i]at b;rcases fo.1 a with rfl|a
   .simp_all
   exact Dd b d a
def gm:m Bool->Nat->Bool
 |[],_=>l
 |a::_,0=>a
 |_::d,b+1=>gm d b
def jR:m Bool->m Bool->m Bool
 |[],b=>b
 |true::a,[]=>f::a
 |false::a,[]=>l::a
 |true::a,_::b=>f::jR a b
 |false::a,f::b=>f::jR a b
 |false::a,l::b=>l::jR a b
def qe:∀{a b:m Bool}{d:Nat},gm (jR a b) d=(gm a d||gm b d)
 |[],b,d=>by exact cQ
 |true::a,[],d=>by simp[jR,gm]
 |false::a,[],d=>by simp[jR,gm]
 |true::a,e::b,0=>by exact cQ
 |true::a,e::b,d+1=>by simp[jR,gm];exact qe
 |false::a,f::b,0=>by exact cQ
 |false::a,f::b,d+1=>by simp[jR,gm];exact qe
 |false::a,l::b,0=>by exact cQ
 |false::a,l::b,d+1=>by simp[jR,gm];exact qe
def nD:Nat->m Bool
 |0=>[f]
 |a+1=>l::nD a
theorem xi:∀{b a:Nat},gm (nD b) a=decide (b=a)
 |0,0=>rfl
 |0,a+1=>by exact cQ
 |b+1,0=>by exact cQ
 |b+1,a+1=>by simp only[nD,gm,xi];simp
def lL(a:m (m Bool)):m Nat->m Bool
 |[]=>[]
 |b::d=>match c7 b a with
  |some e=>jR (jR e (nD b)) (lL a d)
  |none=>jR (nD b) (lL a d)
theorem BH{j}{w}:∀{o:m Nat},gm (lL j o) w=f->∃d∈o,d=w∨∃b,j[d]?=h b/\gm b w=f
 |[],a=>by exact cQ
 |d::p,a=>by
  simp[lL,lh]at a;have qX:∀{k:Nat},gm (nD d) k=f->d=k:=by grind[xi]
  have i:gm (lL j p) w=f->∃g∈d::p,g=w∨∃b,j[g]?=h b/\gm b w=f:=by intro a;obtain⟨g,r,q⟩:=BH a;grind
  split at a
  .rename_i b e;rw[qe,qe,jB,jB]at a;grind
  rw[qe,jB]at a;grind
def pH:m Bool->m Bool->Bool
 |[],_=>f
 |true::a,f::b=>pH a b
 |true::_,_=>l
 |false::a,_::b=>pH a b
 |false::a,[]=>pH a []
theorem tN:∀{b d:m Bool}{w:Nat},pH b d=f->gm b w=f->gm d w=f
 |[],d,w,_,a=>by exact cQ
 |true::b,f::d,0,_,_=>rfl
 |true::b,f::d,w+1,e,a=>by simp[gm]at a⊢;exact tN cQ a
 |true::b,l::d,w,e,_=>by exact cQ
 |true::b,[],w,e,_=>by exact cQ
 |false::b,g::d,0,_,a=>by exact cQ
 |false::b,g::d,w+1,e,a=>by simp[gm]at a⊢;exact tN cQ a
 |false::b,[],0,_,a=>by exact cQ
 |false::b,[],w+1,e,a=>by simp[gm]at a;have:=tN (w:=w) (by simpa[pH]using e) a;exact cQ
def pG(v:m (Nat×bv))(p:m (Nat×bL))(u:Nat)(r:m (Nat×Bool))(e:m ap)(o:m (Nat×z×Bool))(a:kY)(k:ap):Option kY:=
 match fd u k.dst with
 |false=>n
 |true=>
  eV (c6 k.after.toList) λi=>
  match tl a.a9 i with
  |false=>n
  |true=>match hA v p r e (fL (λs=>ed s i) 0 a.pre (g_ a.a9 e o)) a.b k with
   |none=>n
   |some (t,j,b)=>
    eV (lL a.cc i) λg=>
    match j,mD (fL (λs=>ed s i) 0 a.pre (g_ a.a9 e o)) k with
    |none,l=>eV (a.pre++[(k.dst,t)]) λpre=>eV (a.cc++[g]) λd=>eV (gB b a.cy) λb=>h ⟨a.a9+1,pre,a.b,d,a.dB,a.dD,b⟩
    |none,f=>match pH a.dB g with
     |true=>eV (a.pre++[(k.dst,t)]) λpre=>eV (a.cc++[g]) λd=>eV (gB b a.cy) λb=>eV (jR a.dD (nD a.a9)) λq=>h ⟨a.a9+1,pre,a.b,d,a.dB,q,b⟩
     |false=>n
    |some j,_=>match pH a.dD g with
     |true=>eV (a.pre++[(k.dst,t)]) λpre=>eV (a.cc++[g]) λd=>eV (gB b a.cy) λb=>eV (jR a.dD (nD a.a9)) λq=>eV (jR a.dB (nD a.a9)) λw=>h ⟨a.a9+1,pre,j,d,w,q,b⟩
     |false=>n
def y1(k:m (Nat×bv))(d:m (Nat×bL))(j:Nat)(g:m (Nat×Bool))(a:m ap)(e:m (Nat×z×Bool)):m ap->kY->Option kY
 |[],b=>h b
 |o::p,b=>match pG k d j g a e b o with
  |some i=>y1 k d j g a e p i
  |none=>n
def xZ(o:m (Nat×bv))(d:m (Nat×bL))(k:Nat)(i:m (Nat×Bool))(a:m ap)(j:bH)(p:m an):Option (bH×m an×m Prop):=
 match kO a with
 |false=>n
 |true=>eV (oC a j) λg=>match y1 o d k i a g a ⟨0,[],p,[],[],[],[]⟩with
  |some b=>eV (fL (λ_=>f) 0 b.pre (mN a j)) λe=>h (e,b.b,b.cy)
  |none=>n
def eo:ap:=⟨n,.move (.tmp 0),0,"",#[],n⟩
section
variable (ad:m (Nat×bv))(CT:m (Nat×bL))(D:Nat)(bg:m (Nat×Bool))(all:m ap)(cG:m (Nat×z×Bool))
def jE(a:kY):Nat->kY
 |0=>a
 |b+1=>(pG ad CT D bg all cG (jE a b) (all.getD b eo)).getD (jE a b)
def qv(a:kY)(b:Nat):bH:=fL (λd=>ed d (c6 (all.getD b eo).after.toList)) 0 (jE ad CT D bg all cG a b).pre (g_ (jE ad CT D bg all cG a b).a9 all cG)
def y0(a:kY)(b:Nat):Option (z×Option (m an)×m Prop):=hA ad CT bg all (qv ad CT D bg all cG a b) (jE ad CT D bg all cG a b).b (all.getD b eo)
def q0(a:kY)(b:Nat):z:=match y0 ad CT D bg all cG a b with|some (d,_,_)=>d|none=>.any
def ji(a:kY)(b:Nat):Bool:=match y0 ad CT D bg all cG a b with|some (_,h _,_)=>f|_=>l
def qx(a:kY)(b:Nat):Bool:=!mD (qv ad CT D bg all cG a b) (all.getD b eo)&&!ji ad CT D bg all cG a b
def qj(a:kY)(b:Nat):m Bool:=lL (jE ad CT D bg all cG a b).cc (c6 (all.getD b eo).after.toList)
end
section
variable {ad:m (Nat×bv)}{CT:m (Nat×bL)}{D:Nat}{bg:m (Nat×Bool)}{all:m ap}{cG:m (Nat×z×Bool)}
structure FV(ad:m (Nat×bv))(CT:m (Nat×bL))(D:Nat)(bg:m (Nat×Bool))(all:m ap)(cG:m (Nat×z×Bool))(b8 rZ:kY)(t:ap)(o:z)(ao:Option (m an))(cy:m Prop):Prop where
 dst:fd D t.dst=f
 lt:tl b8.a9 (c6 t.after.toList)=f
 op:hA ad CT bg all (fL (λw=>ed w (c6 t.after.toList)) 0 b8.pre (g_ b8.a9 all cG)) b8.b t=h (o,ao,cy)
 a9:rZ.a9=b8.a9+1
 pre:rZ.pre=b8.pre++[(t.dst,o)]
 cc:rZ.cc=b8.cc++[lL b8.cc (c6 t.after.toList)]
 b:rZ.b=ao.getD b8.b
 cy:rZ.cy=gB cy b8.cy
 iI:rZ.dB=if ao.isSome=f then jR b8.dB (nD b8.a9)else b8.dB
 jy:rZ.dD=if(mD (fL (λw=>ed w (c6 t.after.toList)) 0 b8.pre (g_ b8.a9 all cG)) t||ao.isSome)=f then jR b8.dD (nD b8.a9)else b8.dD
 load:mD (fL (λw=>ed w (c6 t.after.toList)) 0 b8.pre (g_ b8.a9 all cG)) t=f->ao.isSome=l->pH b8.dB (lL b8.cc (c6 t.after.toList))=f
 b_:ao.isSome=f->pH b8.dD (lL b8.cc (c6 t.after.toList))=f
def Mh{b8 i}(b:pG ad CT D bg all cG b8 t=h i):∃m d g,FV ad CT D bg all cG b8 i t m d g:=by
 unfold pG at b;split at b
 .cases b
 rename_i k;simp[hu]at b;split at b
 .cases b
 rename_i j;split at b
 .cases b
 rename_i m d g e;refine⟨m,d,g,?_⟩;cases d with
 |none=>
  cases o:mD (fL (λp=>ed p (c6 t.after.toList)) 0 b8.pre (g_ b8.a9 all cG)) t with
  |false=>
   simp[o,hu]at b;cases b;exact⟨k,j,e,a,a,a,a,a,by simp,by grind,by grind,by simp⟩
  |true=>
   simp[o,hu]at b;split at b
   .rename_i s;cases b;exact⟨k,j,e,a,a,a,a,a,by simp,by grind,λ_ _=>s,by simp⟩
   grind
 |some d=>
  simp[hu]at b;split at b
  .rename_i s;cases b;exact⟨k,j,e,a,a,a,a,a,by simp,by simp,by simp,λ_=>s⟩
  grind
def LL{b8 d}:∀{bs:m ap}{i:Nat},(∀a,bs[a]?=all[i+a]?)->y1 ad CT D bg all cG bs (jE ad CT D bg all cG b8 i)=h d ->
  (∀a g,bs[a]?=h g->pG ad CT D bg all cG (jE ad CT D bg all cG b8 (i+a)) g=h (jE ad CT D bg all cG b8 (i+a+1)))/\jE ad CT D bg all cG b8 (i+c bs)=d
 |[],i,_,b=>by cases b;grind
 |q::r,i,e,b=>by
  simp[y1]at b;have o:all[i]?=h q:=by have:=e 0;grind
  split at b
  .rename_i j k;have p:jE ad CT D bg all cG b8 (i+1)=j:=by simp[jE,al,o,iq,k]
   rw[<-p]at b;obtain⟨t,s⟩:=LL (bs:=r) (i:=i+1) (λa=>by have:=e (a+1);grind) b;grind
  grind
theorem qJ:∀{a:m Nat},ed w a=f->w∈a:=by
 intro a;induction a with
 |nil=>intro b;cases b
 |cons d g e=>
  intro b;simp[ed]at b;exact ub
def S7{aS:aj P}(a5:P.follows Departure.mixedOrders=f)(aR:bn P ad)(aU:a8 aS CT){aQ}(u:xZ ad CT D bg aD.toList F p=h (aQ,ao,cf))(bL:U cf){aN}(bF:aN .normal aQ ao)(id):
  b0 aS D (.region id aD f) aN F p:=by
 unfold xZ at u;split at u
 .cases u
 rename_i bo;rw[hu]at u;split at u
 case h_2=>cases u
 rename_i ah aG;rw[hu]at u;cases u;generalize bG:aD.toList=g at *;generalize aH:oC g F=cG at *;have bu:∀e:Nat,aD[e]?=g[e]?:=λe=>by grind
 have bd:aD.size=c g:=M;let m:kY:=⟨0,[],p,[],[],[],[]⟩
 obtain⟨bS,bT⟩:=LL (ad:=ad) (CT:=CT) (D:=D) (bg:=bg) (cG:=cG) (b8:=m) (bs:=g) (i:=0) (λe=>by simp) aG;simp only[cV]at bS bT;let k:=jE ad CT D bg g cG m;have aM:∀e t,g[e]?=h t->g.getD e eo=t:=λe t u=>by grind
 have ai:∀e t,g[e]?=h t->qv ad CT D bg g cG m e=(fL (λj=>ed j (c6 (t).after.toList)) 0 (k e).pre (g_ (k e).a9 g cG)):=λe t u=>by unfold qv;grind
 have C:∀e t,g[e]?=h t->∃bq,FV ad CT D bg g cG (k e) (k (e+1)) t (q0 ad CT D bg g cG m e) (if ji ad CT D bg g cG m e=f then h (k (e+1)).b else n) bq:=by
  intro e t cw;obtain⟨aO,z,bq,o⟩:=Mh (bS e t cw);have aL:=o.op;have aA:y0 ad CT D bg g cG m e=h (aO,z,bq):=by unfold y0 qv;grind
  have bN:q0 ad CT D bg g cG m e=aO:=by unfold q0;rw[aA]
  cases z with
  |none=>
   have O:ji ad CT D bg g cG m e=l:=by unfold ji;rw[aA]
   grind
  |some bk=>
   have O:ji ad CT D bg g cG m e=f:=by unfold ji;rw[aA]
   have bO:(k (e+1)).b=bk:=o.b;grind
 have bt:∀e,e<=c g->(k e).a9=e:=by
  intro e;induction e with
  |zero=>intro _;rfl
  |succ e N=>
   intro bp;obtain⟨_,o⟩:=C e _ (bI y);rw[o.a9,N y]
 have W:∀e,e<=c g->∀j,(k e).pre[j]?=if j<e then(g[j]?).map (λt=>(t.dst,q0 ad CT D bg g cG m j))else n:=by
  intro e;induction e with
  |zero=>intro _ j;exact cQ
  |succ e N=>
   intro bp j;obtain⟨_,o⟩:=C e _ (bI y);have T:(k e).pre.length=e:=by
    apply Nat.le_antisymm
    .grind
    grind
   rw[o.pre];grind
 have ax:∀e,e<=c g->∀j,(k e).cc[j]?=if j<e then h (qj ad CT D bg g cG m j)else n:=by
  intro e;induction e with
  |zero=>intro _ j;exact cQ
  |succ e N=>
   intro bp j;obtain⟨_,o⟩:=C e _ (bI y);have T:(k e).cc.length=e:=by
    apply Nat.le_antisymm
    .apply Nat.le_of_not_lt;intro aK;have:=N y e;grind
    grind
   rw[o.cc];by_cases S:j<e
   .grind
   rw[hq y];by_cases r:j=e
   .subst r;rw[br y,T,uA];simp only[m8,qj,aM j _ (bI (by omega:j<c g))];rfl
   grind
 have bz:∀e,e<=c g->∀j,gm (k e).dB j=(decide (j<e)&&ji ad CT D bg g cG m j):=by
  intro e;induction e with
  |zero=>intro _ j;exact cQ
  |succ e N=>
   intro bp j;obtain⟨_,o⟩:=C e _ (bI y);rw[o.iI];cases O:ji ad CT D bg g cG m e with
   |false=>
    grind
   |true=>
    simp only[dH,Option.isSome_some];rw[qe,N y j,xi,bt e y];by_cases r:j=e
    .grind
    grind
 have bf:∀e,e<=c g->∀j,gm (k e).dD j=(decide (j<e)&&!qx ad CT D bg g cG m j):=by
  intro e;induction e with
  |zero=>intro _ j;exact cQ
  |succ e N=>
   intro bp j;obtain⟨_,o⟩:=C e _ (bI y);have ag:(if ji ad CT D bg g cG m e=f then h (k (e+1)).b else n).isSome=ji ad CT D bg g cG m e:=by cases ji ad CT D bg g cG m e<;>rfl
   have aq:qx ad CT D bg g cG m e=!(mD (fL (λj=>ed j (c6 (g[e]'y).after.toList)) 0 (k e).pre (g_ (k e).a9 g cG)) (g[e]'y)||ji ad CT D bg g cG m e):=by unfold qx;rw[ai e _ (bI y),aM e _ (bI y)];simp
   rw[o.jy,ag];cases O:(mD (fL (λj=>ed j (c6 (g[e]'y).after.toList)) 0 (k e).pre (g_ (k e).a9 g cG)) (g[e]'y)||ji ad CT D bg g cG m e)with
   |false=>
    grind
   |true=>
    simp only[dH];rw[qe,N y j,xi,bt e y];by_cases r:j=e
    .grind
    grind
 have V:∀e,e<=c g->U (k e).cy:=by
  have aw:∀i e,e+i=c g->U (k e).cy:=by
   intro i;induction i with
   |zero=>
    grind
   |succ i N=>
    intro e bp;obtain⟨_,o⟩:=C e _ (bI y);have:=N (e+1) y;rw[o.cy,U.Y]at this;exact this.2
  intro e bp;exact aw (c g-e) e y
 have b5:∀e t,g[e]?=h t->aV aS D g t (qv ad CT D bg g cG m e) (k e).b (q0 ad CT D bg g cG m e) (k (e+1)).b:=by intro e t cw;have bp:e<c g:=(cO.1 cw).1;obtain⟨_,o⟩:=C e t cw;have nu:=V (e+1) y;rw[o.cy,U.Y]at nu;have:=ee (P:=P) (D:=D) aR aU o.op nu.1;rw[o.b];grind
 let idx:Nat->Option Nat:=λq=>(aC (c g)).find? (λe=>decide ((g.getD e eo).dst=h q));have b6:∀q j,idx q=h j->∃t,g[j]?=h t/\t.dst=h q:=M;have bR:∀e t az,g[e]?=h t->t.dst=h az->idx az=h e:=by
  intro e t az cw Q;have bp:e<c g:=(cO.1 cw).1;cases bN:idx az with
  |none=>
   grind
  |some j=>
   grind[Dr]
 have b_:∀q,jO q g=f↔∃j,idx q=h j:=by grind[CP,vf]
 have b9:∀e t,g[e]?=h t->∀r∈t.after,eN r=f->r.on<e:=by intro e t cw r O Y;have bp:e<c g:=(cO.1 cw).1;obtain⟨_,o⟩:=C e t cw;have:=Dd o.lt r.on (l2.2 ⟨r,by grind,Y,rfl⟩);grind
 have bl:=b9;have Q:re aS D aD F (λe=>(k e).b) (q0 ad CT D bg g cG m) (qv ad CT D bg g cG m) (qx ad CT D bg g cG m) (λe=>decide (e<c g)&&ji ad CT D bg g cG m e) (λe j=>e<c g/\gm (qj ad CT D bg g cG m e) j=f) idx (fL (λ_=>f) 0 ah.pre (mN g F)):=by
  refine⟨a5,M,?_,?_,?_,?_,?_,?_,?_,?_,?_⟩
  .intro e t az cw Q;rw[bu]at cw;obtain⟨_,o⟩:=C e t cw;exact⟨bR e t az cw Q,la o.dst az Q⟩
  .grind
  .intro e O;rcases dY e (c g) with bp|bp
   .obtain⟨_,o⟩:=C e _ (bI bp);have:ji ad CT D bg g cG m e=l:=M;have b4:=o.b;grind
   have bB:g.getD e eo=eo:=M;show(k (e+1)).b=(k e).b;have:pG ad CT D bg g cG (k e) eo=n∨∃aJ,pG ad CT D bg g cG (k e) eo=h aJ:=by
    cases pG ad CT D bg g cG (k e) eo with
    |none=>grind
    |some aJ=>grind
   show((pG ad CT D bg g cG (k e) (g.getD e eo)).getD (k e)).b=(k e).b;rw[bB];rcases this with u|⟨aJ,u⟩
   .grind
   rw[u];obtain⟨aO,z,bP,o⟩:=Mh u;have aL:=o.op;have:z=n:=by unfold hA at aL;simp only[eo,pv,yN,u0,va]at aL;grind
   rw[iq,o.b,this];rfl
  .grind
  .intro e t cw ae;rw[bu]at cw;have bp:e<c g:=(cO.1 cw).1;have aI:mD (fL (λj=>ed j (c6 (t).after.toList)) 0 (k e).pre (g_ (k e).a9 g cG)) t=l/\ji ad CT D bg g cG m e=l:=by unfold qx at ae;grind
   refine⟨by grind,λi=>?_⟩;obtain⟨bP,o⟩:=C e t cw;have aL:=o.op;rw[aI.2]at aL;have aF:=aaV aI.1 (by simpa using aL) (k i).b;have nu:=V (e+1) y;rw[o.cy,U.Y]at nu;have:=ee (P:=P) (D:=D) aR aU aF nu.1;grind
  .intro L cd e j ⟨bp,Y⟩;have ak:∀e,e<c g->L e->∀r,r∈c6 (g.getD e eo).after.toList->L r:=by intro e bp an r O;rw[aM e _ (bI bp)]at O;obtain⟨bx,s,v,rfl⟩:=l2.1 O;grind
   have key:∀e,e<c g->∀j,gm (qj ad CT D bg g cG m e) j=f->(∀r∈c6 (g.getD e eo).after.toList,L r)->L j:=by
    intro e;induction e using Nat.strongRecOn with
    |_ e N=>
     intro bp j Y aX;obtain⟨r,O,u⟩:=BH Y;have aK:r<e:=by have R:=O;rw[aM e _ (bI bp)]at R;obtain⟨bx,s,v,rfl⟩:=l2.1 R;grind
     rcases u with rfl|⟨bV,bH,a1⟩
     .grind
     have:=ax e y r;rw[br aK]at this;have a0:(k e).cc[r]?=h bV:=bH;rw[a0]at this;cases this;exact N r aK y j a1 (ak r y (aX r O))
   refine⟨λan=>key e bp j Y (ak e bp an),g[e],by grind,λbM=>key e bp j Y ?_⟩;grind[List.getElem?_eq_getElem,l2]
  .intro e Z bp x O b1 au;rw[bd]at bp x;have R:ji ad CT D bg g cG m Z=f:=M;rcases dY Z e with aK|bZ
   .refine .inl ⟨aK,bp,?_⟩;obtain⟨_,o⟩:=C e _ (bI bp);have K:qj ad CT D bg g cG m e=lL (k e).cc (c6 (g[e]).after.toList):=by unfold qj;grind
    rw[K];cases a3:ji ad CT D bg g cG m e with
    |true=>
     have s:=o.b_ M;refine tN s ?_;rw[bf e y Z];have:qx ad CT D bg g cG m Z=l:=by unfold qx;grind
     grind
    |false=>
     have a_:mD (fL (λj=>ed j (c6 (g[e]).after.toList)) 0 (k e).pre (g_ (k e).a9 g cG)) g[e]=f:=by unfold qx at au;rw[ai e _ (bI bp),aM e _ (bI bp),a3]at au;grind
     have s:=o.load a_ M;grind[tN]
   have aK:e<Z:=y;refine .inr ⟨aK,x,?_⟩;obtain⟨_,o⟩:=C Z _ (bI x);have K:qj ad CT D bg g cG m Z=lL (k Z).cc (c6 (g[Z]).after.toList):=by unfold qj;grind
   rw[K];have s:=o.b_ M;grind[tN]
  .intro e t cw q p b aa ab;rw[bu]at cw;have bp:e<c g:=(cO.1 cw).1;unfold qv;rw[aM e t cw];rcases vs (A:=λj=>ed j (c6 t.after.toList)) (F:=g_ (k e).a9 g cG) (q:=q) (d:=(k e).pre) (e:=0)with⟨j,aO,s,v,w⟩|w
   .have J:look (fL (λj=>ed j (c6 t.after.toList)) 0 (jE ad CT D bg g cG m e).pre (g_ (jE ad CT D bg g cG m e).a9 g cG)) q=aO:=w;rw[J];have B:=W e y j;rw[s]at B;have S:j<e:=M;rw[br S,bI (by omega:j<c g)]at B;simp only[lF,eU,lG]at B;obtain⟨bc,b3⟩:=B;have aP:=bR j _ q (bI (by omega:j<c g)) bc.symm;rw[aP]at ab;simp only at ab;rw[br]at ab
    .grind
    have aE:j∈c6 t.after.toList:=by simp only[cV]at v;exact qJ v
    obtain⟨r,bU,b',bV⟩:=l2.1 aE;grind
   have J:look (fL (λj=>ed j (c6 t.after.toList)) 0 (jE ad CT D bg g cG m e).pre (g_ (jE ad CT D bg g cG m e).a9 g cG)) q=look (g_ (k e).a9 g cG) q:=w;rw[J,bt e y,<-aH,Kd];split
   .trivial
   rename_i b2;cases aP:idx q with
   |some j=>
    have cc:=(b_ q).2 ⟨j,aP⟩;have bE:nt e q g=l:=M;obtain⟨bh,a',a2⟩:=b6 q j aP;have bK:=qJ (JE bE j bh a' a2);obtain⟨r,O,Y,heq⟩:=l2.1 bK;rw[aP]at ab;simp only at ab;split at ab
    ·
     rename_i a4;obtain⟨cb,bX,bW,bJ⟩:=a4;grind
    rw[br ⟨bh,by grind,r,by grind,Y,heq⟩]at ab;exact ab
   |none=>grind
  intro q p b aa ab;have bD:k (c g)=ah:=bT;rcases vs (A:=λ_=>f) (F:=mN g F) (q:=q) (d:=ah.pre) (e:=0)with⟨j,aO,s,_,w⟩|w
  .rw[w];have B:=W (c g) (bC _) j;rw[bD,s]at B;have S:j<c g:=M;grind
  rw[w,tk];split
  .trivial
  grind
 intro b bU aq a6 b' cg ca b7 Y aZ;have aW:k aD.size=ah:=M;refine .next a λI H=>?_;have H:=aS.bN H;have G:=a6.rely H;have aB:=aq.rely H a6;have X:cN p I p {I with a:={I.a with drawn:=I.a.drawn+1}}:=cN.same rfl rfl rfl rfl;have ar:bb p {I with a:={I.a with drawn:=I.a.drawn+1}}:=G.same rfl;have bj:=H.aV.trans (X.too1 G);refine⟨_,{I with a:={I.a with drawn:=I.a.drawn+1}},#[],D4,⟨⟨p,p,G,ar,X⟩,.nil⟩,?_⟩;simp only[Region.schedule,a5,Bool.true_or,dH];refine Q.eQ Y (cF:={I with a:={I.a with drawn:=I.a.drawn+1}}) (λbQ bw aT v av=>?_) aD.size _ E ?_ ?_ 0 _ bU y ?_ ?_ ar (.refl _ _) _
 .simp only[aW]at aT v av;exact aZ .normal _ _ bQ bw bF aT v (bj.trans av)
 .simp
 .exact Fa
 .intro Z x bY;exact wx
 have aI:=aB.mono (X.too1 G) G.len;refine⟨aI.size,aI.defers,λq=>?_⟩;unfold gx;cases aP:idx q with
 |none=>exact aI.aH q
 |some j=>
  simp only;rw[bm]
  .exact aI.aH q
  exact wx
end
section
variable {r:aj P}
theorem g.iG(e:P.follows Departure.mixedOrders=f)(aR:bn P ad)(b:a8 r CT){a}{id}(i:xZ ad CT D bg aD.toList F p=h (a,ao,cf))(d:U cf)(j:g r D be ar .normal a ao):g r D be (.code (.region id aD f)::ar) .normal F p:=
 S7 e aR b i d j id
end
def r1(x:m (Nat×bv))(q:m (Nat×bL))(o:m (Nat×Bool))(w:Nat)(b:m ij)(a:bH)(e:m an):Option (m ij×bH×m an×m Prop):=
 match b with
 |[]=>n
 |.blk _::b=>h (b,a,e,[])
 |.ae _ []::b=>h (b,a,e,[])
 |.ae g (r::j)::b=>match fd w r.dst with
  |true=>match hA x q o g a e r with
   |some (p,n,d)=>eV (fT r.dst p a) λa=>h (.ae g j::b,a,e,d)
   |some (p,h k,d)=>eV (fT r.dst p a) λa=>h (.ae g j::b,a,k,d)
   |none=>n
  |false=>n
 |.code u::b=>match u with
  |.skip=>h (b,a,e,[])
  |.seq p v=>h (.code p::.code v::b,a,e,[])
  |.block id u=>h (.code u::.blk id::b,a,e,[])
  |.region id i y=>match vr o (id+1000000)with
   |some _=>n
   |none=>match y with
    |false=>h (.ae i.toList i.toList::b,a,e,[])
    |true=>match xZ x q w o i.toList a e with
     |some (s,k,d)=>h (b,s,k,d)
     |none=>n
  |.exit id=>match iO id b with
   |some t=>h (t,a,e,[])
   |none=>n
  |.cond (.tmp z) p v=>match look a z with
   |.n (.aq (.c (.bool f)))=>h (.code p::b,a,e,[])
   |.n (.aq (.c (.bool l)))=>h (.code v::b,a,e,[])
   |_=>n
  |_=>n
theorem acM{d:aj P}(q:P.follows Departure.mixedOrders=f)(aR:bn P ad)(ai:a8 d CT){C}{a}(u:r1 ad CT bg D ar F p=h (C,a,ao,cf))(cw:U cf)(i:g d D be C .normal a ao):g d D be ar .normal F p:=by
 unfold r1 at u;split at u
 .cases u
 .grind [g.iv]
 .grind [g.hL]
 .rename_i all t bs b;cases e:fd D t.dst with
  |false=>grind
  |true=>
   simp[e]at u;have ae:=la e;split at u
   .rename_i o k j;exact QD
   .rename_i o aM k j;exact QD
   grind
 rename_i m b;split at u
 .grind [g.skip]
 .grind [g.seq]
 .grind [g.block]
 .grind [g.region,g.iG]
 .grind [g.exit]
 .grind [g.cond]
 grind
def kS(p:m (Nat×bv))(b:m (Nat×bL))(d:m (Nat×Bool))(o:Nat):Nat->m ij->bH->m an->m Prop->Option (m ij×bH×m an×m Prop)
 |0,g,e,i,a=>eV a λa=>h (g,e,i,a)
 |r+1,g,e,i,a=>match r1 p b d o g e i with
  |some (q,j,k,s)=>kS p b d o r q j k (gB s a)
  |none=>eV a λa=>h (g,e,i,a)
def LK{P}{r:aj P}(v:P.follows Departure.mixedOrders=f){ad}(aR:bn P ad){CT}(w:a8 r CT){bg}{D}{be}:∀{t:Nat}{j q:m ij}{i d:bH}{k e:m an}{b a:m Prop},
  kS ad CT bg D t j i k b=h (q,d,e,a)->U a->g r D be q .normal d e->g r D be j .normal i k/\U b
 |0,j,q,i,d,k,e,b,a,o,p,s=>by simp[kS,hu]at o;grind
 |t+1,j,q,i,d,k,e,b,a,o,p,s=>by
  simp[kS]at o;cases x:r1 ad CT bg D j i k with
  |none=>
   grind[hu]
  |some y=>
   obtain⟨A,z,u,E⟩:=y;simp[x]at o;obtain⟨C,B⟩:=LK v aR w o p s;grind[U.Y,acM]
def g.aT{b:aj P}(m:P.follows Departure.mixedOrders=f)(aR:bn P ad)(d:a8 b CT)(bg)(k){j}{a}{i}(o:AM.kS ad CT bg D k ar F p []=h (j,a,ao,i))(e:U i)(q:g b D be j .normal a ao):g b D be ar .normal F p:=(LK m aR d o e q).1
section
variable {r:aj P}
def pC(e:m ResultVar)(b:m Nat)(g:bH)(a:z):Option (m Prop):=
 match oH g e with
 |some d=>match pq d with
  |some i=>match hM (c b) a with
   |true=>km i (e9 b a)
   |false=>n
  |none=>n
 |none=>n
def g.aS{fn}{x}{res}(aP)(u:pC fn.results.toList aP F res=h ab)(I:U ab)(bU:∀w,w<x->aP[w]?=h w)(s:dv aP p=h ao:=by exact rfl)(j:l4 ao=f:=by exact rfl)(jk:e8 aP=f:=by exact rfl):
  g r D (bW fn x res ao) (.code .ret::ar) .normal F p:=by refine g.ret ⟨.inl a,aP,?_⟩;unfold pC at u;grind
def g.aw{fn}{res}(u:pC fn.results.toList [] F res=h ab)(x:U ab:=by simp):g r D (bW fn 0 res []) (.code .ret::ar) .normal F p:=
 g.aS [] u x (λw u=>by omega)
def bW.zero{fn}{res}(u:pC fn.results.toList [] F res=h ab)(s:U ab:=by simp):bW fn 0 res [] .ret F p:=by
 refine⟨.inl a,[],?_⟩;unfold pC at u;split at u
 .rename_i bg Yx;split at u
  .rename_i I j;split at u
   .rename_i x;exact⟨bg,I,ab,Yx,j,u,s,x,a,a,a,λw u=>by omega⟩
   grind
  grind
 grind
def g.bt{id}{O:bH->m an->Prop}{Aj}{d C}(k:iO id ar=n)(o:iO id d=h C)(w:g r D Aj C .normal F p):
  g r D (λi b e=>match i with
   |.normal=>O b e
   |i=>g r D Aj d i b e) (.code (.exit id)::ar) .normal F p:=by
 have key:∀{ar:m ij},iO id ar=n->∀{aN:fs},aN (.exit id) F p->g r D aN ar (.exit id) F p:=by
  intro ar;induction ar with
  |nil=>intro _ aN j;exact j
  |cons v A s=>
   intro a aN j;cases v with
   |code z=>exact s (by simpa[iO]using a) j
   |ae x y=>exact s (by simpa[iO]using a) j
   |blk t=>
    simp[iO]at a;cases q:af id t with
    |true=>grind
    |false=>
     simp[q]at a;have u:id≠t:=λi=>by grind[Nat.beq_refl]
     simp[g,u,dh];grind
 exact b0.exit (key k (g.toExit o w))
def g.bS{O:bH->m an->Prop}{a}{i}(j:a .ret F p):
  g r D (λe b d=>match e with
   |.normal=>O b d
   |e=>g r D a i e b d) (.code .ret::ar) .normal F p:=g.ret (g.dK (be:=a) j)
def g.again{i:Type}{s:i->Prop}{d:i->bH}{e:i->m an}{j:i->Nat}{o}{k:fs}(X)(v:iS F (d X)=h ab)(w:U ab)(x:s X)(u:j X<j o)(t:p=e X):
  g r D (λq a b=>match q with
   |.normal=>∃X,s X/\j X<j o/\iA a (d X)/\b=e X
   |q=>k q a b) [] .normal F p:=⟨X,x,u,eD v w,t⟩
def g.eh{j:Type}(i:j->Prop)(a:j->bH)(b:j->m an)(q:j->Nat)(o)(v:iS F (a o)=h ab)(w:U ab)(x:i o)(u:b o=p)(round:∀o,i o->g r D (λt d e=>match t with
   |.normal=>∃k,i k/\q k<q o/\iA d (a k)/\e=b k
   |t=>g r D be ar t d e) [.code s] .normal (a o) (b o)):g r D be (.code (.loop s)::ar) .normal F p:=
 g.loop i a b q o x (eD v w) u round
def ky(args:m z)(a:m an):Prop:=∃b B,b5 a b B args/\bb a b
def ky.at{args}(e:ky args p){a}(g:args[w]?=h a):∃b i,bx p b i a:=by obtain⟨b,B,d,_⟩:=e;obtain⟨_,j⟩:=b5.get d;grind
def ky.V{args}{p}(e:ky args p)(i:Nat){d}(a:args[i]?=h (ax (.V d))):c d<=9223372036854775807:=by
 obtain⟨j,k,g⟩:=e.at a;cases b7 g with
 |V e b=>exact b
def ky.S{args}{p}(g:ky args p)(o:Nat){q}{i k}{a:Nat->m N}(b:args[o]?=h (ax (.S q i k a))):k<=9223372036854775807:=by
 obtain⟨u,v,e⟩:=g.at b;cases b7 e with
 |S s d t r j=>omega
def Y.body{j}{fn}{args}{res}(i:P.funcs[j]?=h fn)(e:(fn.name== "runtime.NumGoroutine")=l)(d:fn.body=h s)(m:ay args.length fn.ntmps=f)(o:ky args p->g r fn.ntmps (bW fn p.length res ao) [.code s] .normal (h2 0 args) p):Y r j args p res ao:=by refine⟨⟨fn,i,e,by grind⟩,λk B b a=>?_⟩;exact(Y.intro i e d (fc m) (g.aW (o ⟨k,B,b,a⟩))).2 k B b a
def Y.K{b}{fn}{s}{args}{p ao}{res}(d:P.funcs[b]?=h fn)(a:(fn.name== "runtime.NumGoroutine",fn.body,ay args.length fn.ntmps)=(l,h s,f))(e:ky args p->g r fn.ntmps (bW fn p.length res ao) [.code s] .normal (h2 0 args) p):Y r b args p res ao:=by simp only[lG]at a;exact Y.body d a.1 a.2.1 a.2.2 e
def g.cg{j}(a)(ao)(k:(∀i(b:m Prop),iS i a=h b->U b->g r D be (.code s::j) .normal i ao)->g r D be ar .normal F p)(o:g r D be (.code s::j) .normal a ao):g r D be ar .normal F p:=
 k λ_ _ d e=>b0.le o (eD d e)
end
def hy{e}(a:P.types[q]?=h e):P.info? q=h e:=by unfold Tables.info?;rw[br (jb.1 a).1];exact a
def bn.nil:bn P []:=λ_ _ a=>by cases a
def bn.cons{e}(g:dP P q e)(i:bn P ad):bn P ((q,e)::ad):=by
 intro d cc a;simp only[bZ]at a;cases b:af q d with
 |true=>rw[b]at a;cases a;rw[<-di b];exact g
 |false=>rw[b]at a;exact i d cc a
def dP.jw{e}{k}(u:P.underlying q=h e.desc)(i:P.types[q]?=h k)(x:(yw e.desc==e.agg&&k.size==e.size&&k.bytes==e.bytes&&(!e.agg||k.zero.any λcL=>match cL with|.agg _=>f|_=>l)&&c e.zero==e.size&&e.eq.isEmpty)=f:=by rfl)(j:k.zero.map (λcL=>cL.cells.toList.map lH)=h (e.zero.map h):=by rfl):dP P q e:=by
 simp only[cE,hg,List.isEmpty_iff]at x;obtain⟨⟨⟨⟨⟨jy,ja⟩,wR⟩,Am⟩,RK⟩,RL⟩:=x;cases s:k.zero with
 |none=>rw[s]at j;cases j
 |some cL=>
  rw[s]at j Am;refine⟨u,jy,⟨k,cL,hy i,ja,wR,s,rn j,?_,RK⟩,λu=>absurd RL u⟩;cases I:e.agg with
  |false=>exact⟨#[],rfl⟩
  |true=>
   rw[I]at Am;cases cL<;>first|exact⟨_,rfl⟩|cases Am
def bn.ay{e}{k}(u:P.underlying q=h e.desc)(i:P.types[q]?=h k)(a':bn P ad)(x:(yw e.desc==e.agg&&k.size==e.size&&k.bytes==e.bytes&&(!e.agg||k.zero.any λcL=>match cL with|.agg _=>f|_=>l)&&c e.zero==e.size&&e.eq.isEmpty)=f:=by rfl)(j:k.zero.map (λcL=>cL.cells.toList.map lH)=h (e.zero.map h):=by rfl):bn P ((q,e)::ad):=bn.cons (dP.jw u i x j) a'
namespace R1
abbrev lm:= "loop.example/depositary/impl"
abbrev KS:= "loop.example/depositary/spec"
abbrev b4(a:String)(b d:Nat)(e:String)(g:Nat)(i:Bool:=l):Field:={name:=a,type:=b,offset:=d,embedded:=i,tag:= "",pkgPath:=e,byteOffset:=g}
abbrev gU:N:=.S f 0 0 (λ_=>[])
@[simp] def j0(a:av):bv:=⟨1,24,l,.slice a,[gU],[]⟩
@[simp] def kv(a:av):bv:=⟨1,8,l,.pointer a,[.bk],[]⟩
@[simp] def jZ(b:Nat)(a:IntKind):bv:=⟨1,b,l,.int a,[.int a 0],[]⟩
@[simp] def fM(e a:Nat)(d:Array Field)(g:m N)(b:m TypeDesc:=[]):bv:=⟨e,a,f,.struct d,g,b⟩
def cc:bv:=jZ 8 .i64
def ec:bv:=jZ 8 .i64
def fw:bv:=⟨1,1,l,TypeDesc.bool,[.bool l],[]⟩
def ZF:bv:=jZ 1 .u8
def ZI:bv:=jZ 1 .u8
def i8:bv:=fM 4 24 #[b4 "x" 2 0 "runtime" 0,b4 "y" 3 1 "runtime" 8,b4 "signed" 4 2 "runtime" 16,b4 "code" 6 3 "runtime" 17] [.int .i64 0,.int .i64 0,.bool l,.int .u8 0]
def s_:bv:=⟨1,16,l,TypeDesc.string,[.V []],[]⟩
def YH:bv:=jZ 8 .u64
def i16:bv:=kv 393
def YN:bv:=kv 400
def YR:bv:=⟨1,16,l,TypeDesc.interface #[],[.bo],[]⟩
def YW:bv:=jZ 4 .i32
def YY:bv:=j0 5
def YZ:bv:=j0 70
def Y1:bv:=j0 74
def Y5:bv:=j0 101
def Y_:bv:=fM 3 72 #[b4 "Packs" 23 0 "" 0,b4 "Snaps" 24 1 "" 24,b4 "Log" 25 2 "" 48] [gU,gU,gU]
def Za:bv:=j0 3
def Zi:bv:=fM 5 120 #[b4 "Store" 27 0 "" 0,b4 "Marks" 28 3 "" 72,b4 "Left" 28 4 "" 96] [gU,gU,gU,gU,gU]
def i32:bv:=fM 4 40 #[b4 "Kind" 3 0 "" 0,b4 "N" 3 1 "" 8,b4 "M" 3 2 "" 16,b4 "Body" 9 3 "" 24] [.int .i64 0,.int .i64 0,.int .i64 0,.V []] [.int .i64,.int .i64,.int .i64,.string]
def Yp:dP V 32 i32:=⟨underlying32,rfl,⟨_,_,hy type32,rfl,rfl,rfl,rfl,⟨_,rfl⟩,rfl⟩,λ_=>oi (h7:=[b4 "Kind" 3 0 "" 0,b4 "N" 3 1 "" 8,b4 "M" 3 2 "" 16,b4 "Body" 9 3 "" 24]) underlying32 nM eqGuardType32 ⟨by decide,rfl,underlying3,v,by decide,rfl,underlying3,v,by decide,rfl,underlying3,v,by decide,rfl,underlying9,v,v⟩⟩
def Zp:bv:=j0 46
def Zs:bv:=fM 12 216 #[b4 "Key" 3 0 "" 0,b4 "Sweep" 30 1 "" 8,b4 "Lie" 32 6 "" 128,b4 "Keeps" 33 10 "" 168,b4 "Found" 28 11 "" 192] [.int .i64 0,gU,gU,gU,gU,gU,.int .i64 0,.int .i64 0,.int .i64 0,.V [],gU,gU]
def CW:bv:=j0 114
def Zw:bv:=fM 8 104 #[b4 "Kind" 3 0 "" 0,b4 "By" 3 1 "" 8,b4 "Tree" 36 2 "" 16,b4 "Lie" 32 3 "" 40,b4 "Keep" 28 7 "" 80] [.int .i64 0,.int .i64 0,gU,.int .i64 0,.int .i64 0,.int .i64 0,.V [],gU]
def ys:bv:=fM 2 16 #[b4 "Long" 3 0 "" 0,b4 "Sum" 3 1 "" 8] [.int .i64 0,.int .i64 0] [.int .i64,.int .i64]
def Ys:dP V 46 ys:=⟨underlying46,rfl,⟨_,_,hy type46,rfl,rfl,rfl,rfl,⟨_,rfl⟩,rfl⟩,λ_=>oi (h7:=[b4 "Long" 3 0 "" 0,b4 "Sum" 3 1 "" 8]) underlying46 nM eqGuardType46 ⟨by decide,rfl,underlying3,v,by decide,rfl,underlying3,v,v⟩⟩
def ZG:bv:=kv 77
def ZH:bv:=⟨1,8,l,TypeDesc.func #[60,38] #[4] l,[.da],[]⟩
def ZJ:bv:=kv 35
def ZK:bv:=j0 58
def CX:bv:=j0 103
def nv:bv:=fM 2 32 #[b4 "No" 3 0 "" 0,b4 "Item" 68 1 "" 8] [.int .i64 0,gU]
def ZL:bv:=j0 105
def rI:bv:=fM 2 32 #[b4 "No" 3 0 "" 0,b4 "All" 72 1 "" 8] [.int .i64 0,gU]
def ZM:bv:=fM 2 32 #[b4 "b" 22 0 KS 0,b4 "p" 3 1 KS 24] [gU,.int .i64 0]
def s9:bv:=fM 2 16 #[b4 "By" 3 0 "" 0,b4 "Snap" 3 1 "" 8] [.int .i64 0,.int .i64 0] [.int .i64,.int .i64]
def Yi:dP V 101 s9:=⟨underlying101,rfl,⟨_,_,hy type101,rfl,rfl,rfl,rfl,⟨_,rfl⟩,rfl⟩,λ_=>oi (h7:=[b4 "By" 3 0 "" 0,b4 "Snap" 3 1 "" 8]) underlying101 nM eqGuardType101 ⟨by decide,rfl,underlying3,v,by decide,rfl,underlying3,v,v⟩⟩
def lX:bv:=fM 2 24 #[b4 "Name" 3 0 "" 0,b4 "Body" 9 1 "" 8] [.int .i64 0,.V []] [.int .i64,.string]
def Yj:dP V 103 lX:=⟨underlying103,rfl,⟨_,_,hy type103,rfl,rfl,rfl,rfl,⟨_,rfl⟩,rfl⟩,λ_=>oi (h7:=[b4 "Name" 3 0 "" 0,b4 "Body" 9 1 "" 8]) underlying103 nM eqGuardType103 ⟨by decide,rfl,underlying3,v,by decide,rfl,underlying9,v,v⟩⟩
def yq:bv:=fM 2 40 #[b4 "Path" 9 0 "" 0,b4 "Names" 28 1 "" 16] [.V [],gU]
def YF:bv:=kv 27
def qA:bv:=fM 2 32 #[b4 "Path" 9 0 "" 0,b4 "Text" 9 1 "" 16] [.V [],.V []] [.string,.string]
def Yk:dP V 114 qA:=⟨underlying114,rfl,⟨_,_,hy type114,rfl,rfl,rfl,rfl,⟨_,rfl⟩,rfl⟩,λ_=>oi (h7:=[b4 "Path" 9 0 "" 0,b4 "Text" 9 1 "" 16]) underlying114 nM eqGuardType114 ⟨by decide,rfl,underlying9,v,by decide,rfl,underlying9,v,v⟩⟩
def YG:bv:=j0 9
def YI:bv:=j0 70
def YJ:bv:=fM 3 72 #[b4 "packed" 154 0 lm 0 f,b4 "snaps" 24 1 lm 24,b4 "log" 25 2 lm 48] [gU,gU,gU]
def YK:bv:=⟨1,16,l,TypeDesc.interface #[("Error",346)],[.bo],[]⟩
def YL:bv:=kv 198
def YM:bv:=kv 167
def YO:bv:=kv 30
def YP:bv:=j0 225
def YQ:bv:=kv 242
def JN:bv:=fM 1 16 #[b4 "what" 9 0 lm 0] [.V []] [.string]
def Ym:dP V 198 JN:=⟨underlying198,rfl,⟨_,_,hy type198,rfl,rfl,rfl,rfl,⟨_,rfl⟩,rfl⟩,λ_=>oi (h7:=[b4 "what" 9 0 lm 0]) underlying198 nM eqGuardType198 ⟨by decide,rfl,underlying9,v,v⟩⟩
def YS:bv:=⟨1,8,l,TypeDesc.unsafePointer,[.bk],[]⟩
def YT:bv:=jZ 8 .u64
def YU:bv:=fM 3 24 #[b4 "typ_" 17 0 "internal/reflectlite" 0,b4 "ptr" 203 1 "internal/reflectlite" 8,b4 "flag" 204 2 "internal/reflectlite" 16 f] [.bk,.bk,.int .u64 0]
def YV:bv:=⟨1,16,l,TypeDesc.interface #[("AssignableTo",214),("Comparable",213),("Elem",210),("Implements",214),("Kind",212),("Name",346),("PkgPath",346),("Size",401),("String",346),("internal/reflectlite.common",394),("internal/reflectlite.uncommon",402)],[.bo],[]⟩
def YX:bv:=jZ 1 .u8
def ot:bv:=fM 2 16 #[b4 "Name" 3 0 "" 0,b4 "Pack" 3 1 "" 8] [.int .i64 0,.int .i64 0] [.int .i64,.int .i64]
def Yn:dP V 225 ot:=⟨underlying225,rfl,⟨_,_,hy type225,rfl,rfl,rfl,rfl,⟨_,rfl⟩,rfl⟩,λ_=>oi (h7:=[b4 "Name" 3 0 "" 0,b4 "Pack" 3 1 "" 8]) underlying225 nM eqGuardType225 ⟨by decide,rfl,underlying3,v,by decide,rfl,underlying3,v,v⟩⟩
def Y0:bv:=jZ 8 .u64
def Y2:bv:=fM 3 24 #[b4 "head" 101 0 lm 0,b4 "next" 190 2 lm 16] [.int .i64 0,.int .i64 0,.bk]
def Y3:bv:=kv 307
def Y4:bv:=kv 250
def CV:bv:=j0 103
def Y6:bv:=⟨1,16,l,TypeDesc.interface #[("As",261)],[.bo],[]⟩
def Y7:bv:=⟨1,16,l,TypeDesc.interface #[("Unwrap",263)],[.bo],[]⟩
def Y8:bv:=⟨1,16,l,TypeDesc.interface #[("Unwrap",266)],[.bo],[]⟩
def Y9:bv:=j0 164
def Y':bv:=jZ 8 .i64
def Zb:bv:=jZ 4 .u32
def Zc:bv:=jZ 8 .u64
def yr:bv:=j0 296
def Zd:bv:=fM 0 0 #[] []
def Ze:bv:=fM 0 0 #[] []
def Zf:bv:=fM 0 0 #[] []
def Zg:bv:=fM 1 8 #[b4 "_" 289 0 "sync/atomic" 0,b4 "_" 290 0 "sync/atomic" 0,b4 "v" 285 0 "sync/atomic" 0] [.int .u64 0]
def Zh:bv:=fM 2 16 #[b4 "noCopy" 288 0 "sync" 0,b4 "state" 292 0 "sync" 0,b4 "sema" 283 1 "sync" 8] [.int .u64 0,.int .u32 0]
def qB:bv:=fM 2 24 #[b4 "piece" 9 0 lm 0,b4 "ok" 4 1 lm 16] [.V [],.bool l] [.string,.bool]
def Yo:dP V 296 qB:=⟨underlying296,rfl,⟨_,_,hy type296,rfl,rfl,rfl,rfl,⟨_,rfl⟩,rfl⟩,λ_=>oi (h7:=[b4 "piece" 9 0 lm 0,b4 "ok" 4 1 lm 16]) underlying296 nM eqGuardType296 ⟨by decide,rfl,underlying9,v,by decide,rfl,underlying4,v,v⟩⟩
def Zj:bv:=j0 185
def Zk:bv:=fM 4 32 #[b4 "spot" 225 0 lm 0,b4 "left" 246 2 lm 16,b4 "right" 246 3 lm 24] [.int .i64 0,.int .i64 0,.bk,.bk]
def Zl:bv:=jZ 8 .i64
def Zm:bv:=⟨1,16,l,TypeDesc.interface #[("Len",243),("Less",278),("Pop",319),("Push",315),("Swap",317)],[.bo],[]⟩
def Zn:bv:=jZ 8 .u64
def Zo:bv:=kv 3
def Zq:bv:=kv 343
def Zr:bv:=fM 2 32 #[b4 "addr" 341 0 "strings" 0,b4 "buf" 22 1 "strings" 8] [.bk,gU]
def Zt:bv:=kv 355
def Zu:bv:=kv 5
def Zv:bv:=⟨1,16,l,TypeDesc.interface #[("Is",373)],[.bo],[]⟩
def JO:bv:=fM 2 2 #[b4 "lo" 5 0 "unicode/utf8" 0,b4 "hi" 5 1 "unicode/utf8" 1] [.int .u8 0,.int .u8 0] [.int .u8,.int .u8]
def Yq:dP V 386 JO:=⟨underlying386,rfl,⟨_,_,hy type386,rfl,rfl,rfl,rfl,⟨_,rfl⟩,rfl⟩,λ_=>oi (h7:=[b4 "lo" 5 0 "unicode/utf8" 0,b4 "hi" 5 1 "unicode/utf8" 1]) underlying386 nM eqGuardType386 ⟨by decide,rfl,underlying5,v,by decide,rfl,underlying5,v,v⟩⟩
def Zx:bv:=⟨32,32,f,TypeDesc.array 16 386,[.int .u8 0,.int .u8 0,.int .u8 0,.int .u8 0,.int .u8 0,.int .u8 0,.int .u8 0,.int .u8 0,.int .u8 0,.int .u8 0,.int .u8 0,.int .u8 0,.int .u8 0,.int .u8 0,.int .u8 0,.int .u8 0,.int .u8 0,.int .u8 0,.int .u8 0,.int .u8 0,.int .u8 0,.int .u8 0,.int .u8 0,.int .u8 0,.int .u8 0,.int .u8 0,.int .u8 0,.int .u8 0,.int .u8 0,.int .u8 0,.int .u8 0,.int .u8 0],[]⟩
def Zy:bv:=kv 406
def Zz:bv:=⟨0,0,f,TypeDesc.array 0 16,[],[]⟩
def ZA:bv:=fM 0 0 #[b4 "_" 391 0 "runtime" 0] []
def ZB:bv:=jZ 1 .u8
def ZC:bv:=jZ 4 .i32
def ZD:bv:=jZ 4 .i32
def ZE:bv:=fM 11 48 #[b4 "Size_" 12 0 "" 0,b4 "PtrBytes" 12 1 "" 8,b4 "Hash" 283 2 "" 16,b4 "TFlag" 395 3 "" 20,b4 "Align_" 5 4 "" 21,b4 "FieldAlign_" 5 5 "" 22,b4 "Kind_" 211 6 "" 23,b4 "Equal" 396 7 "" 24,b4 "GCData" 370 8 "" 32,b4 "Str" 397 9 "" 40,b4 "PtrToThis" 398 10 "" 44] [.int .u64 0,.int .u64 0,.int .u32 0,.int .u8 0,.int .u8 0,.int .u8 0,.int .u8 0,.da,.bk,.int .i32 0,.int .i32 0]
def JP:bv:=fM 1 16 #[b4 "s" 9 0 "errors" 0] [.V []] [.string]
def Yr:dP V 406 JP:=⟨underlying406,rfl,⟨_,_,hy type406,rfl,rfl,rfl,rfl,⟨_,rfl⟩,rfl⟩,λ_=>oi (h7:=[b4 "s" 9 0 "errors" 0]) underlying406 nM eqGuardType406 ⟨by decide,rfl,underlying9,v,v⟩⟩
def eR:m (Nat×bv):=[(2,cc),(3,ec),(4,fw),(5,ZF),(6,ZI),(8,i8),(9,s_),(12,YH),(16,i16),(17,YN),(20,YR),(21,YW),(22,YY),(23,YZ),(24,Y1),(25,Y5),(27,Y_),(28,Za),(30,Zi),(32,i32),(33,Zp),(35,Zs),(36,CW),(38,Zw),(46,ys),(53,ZG),(58,ZH),(60,ZJ),(61,ZK),(68,CX),(70,nv),(72,ZL),(74,rI),(77,ZM),(101,s9),(103,lX),(105,yq),(109,YF),(114,qA),(116,YG),(154,YI),(156,YJ),(164,YK),(167,YL),(169,YM),(176,YO),(185,YP),(190,YQ),(198,JN),(203,YS),(204,YT),(206,YU),(209,YV),(211,YX),(225,ot),(234,Y0),(242,Y2),(246,Y3),(249,Y4),(250,CV),(259,Y6),(262,Y7),(264,Y8),(265,Y9),(274,Y'),(283,Zb),(285,Zc),(286,yr),(288,Zd),(289,Ze),(290,Zf),(292,Zg),(294,Zh),(296,qB),(301,Zj),(307,Zk),(308,Zl),(314,Zm),(322,Zn),(326,Zo),(341,Zq),(343,Zr),(359,Zt),(370,Zu),(371,Zv),(386,JO),(387,Zx),(388,Zy),(391,Zz),(393,ZA),(395,ZB),(397,ZC),(398,ZD),(400,ZE),(406,JP)]
def bd:bn V eR:=bn.ay underlying2 type2 ( bn.ay underlying3 type3 ( bn.ay underlying4 type4 ( bn.ay underlying5 type5 ( bn.ay underlying6 type6 ( bn.ay underlying8 type8 ( bn.ay underlying9 type9 ( bn.ay underlying12 type12 ( bn.ay underlying16 type16 ( bn.ay underlying17 type17 ( bn.ay underlying20 type20 ( bn.ay underlying21 type21 ( bn.ay underlying22 type22 ( bn.ay underlying23 type23 ( bn.ay underlying24 type24 ( bn.ay underlying25 type25 ( bn.ay underlying27 type27 ( bn.ay underlying28 type28 ( bn.ay underlying30 type30 ( bn.cons Yp ( bn.ay underlying33 type33 ( bn.ay underlying35 type35 ( bn.ay underlying36 type36 ( bn.ay underlying38 type38 ( bn.cons Ys ( bn.ay underlying53 type53 ( bn.ay underlying58 type58 ( bn.ay underlying60 type60 ( bn.ay underlying61 type61 ( bn.ay underlying68 type68 ( bn.ay underlying70 type70 ( bn.ay underlying72 type72 ( bn.ay underlying74 type74 ( bn.ay underlying77 type77 ( bn.cons Yi ( bn.cons Yj ( bn.ay underlying105 type105 ( bn.ay underlying109 type109 ( bn.cons Yk ( bn.ay underlying116 type116 ( bn.ay underlying154 type154 ( bn.ay underlying156 type156 ( bn.ay underlying164 type164 ( bn.ay underlying167 type167 ( bn.ay underlying169 type169 ( bn.ay underlying176 type176 ( bn.ay underlying185 type185 ( bn.ay underlying190 type190 ( bn.cons Ym ( bn.ay underlying203 type203 ( bn.ay underlying204 type204 ( bn.ay underlying206 type206 ( bn.ay underlying209 type209 ( bn.ay underlying211 type211 ( bn.cons Yn ( bn.ay underlying234 type234 ( bn.ay underlying242 type242 ( bn.ay underlying246 type246 ( bn.ay underlying249 type249 ( bn.ay underlying250 type250 ( bn.ay underlying259 type259 ( bn.ay underlying262 type262 ( bn.ay underlying264 type264 ( bn.ay underlying265 type265 ( bn.ay underlying274 type274 ( bn.ay underlying283 type283 ( bn.ay underlying285 type285 ( bn.ay underlying286 type286 ( bn.ay underlying288 type288 ( bn.ay underlying289 type289 ( bn.ay underlying290 type290 ( bn.ay underlying292 type292 ( bn.ay underlying294 type294 ( bn.cons Yo ( bn.ay underlying301 type301 ( bn.ay underlying307 type307 ( bn.ay underlying308 type308 ( bn.ay underlying314 type314 ( bn.ay underlying322 type322 ( bn.ay underlying326 type326 ( bn.ay underlying341 type341 ( bn.ay underlying343 type343 ( bn.ay underlying359 type359 ( bn.ay underlying370 type370 ( bn.ay underlying371 type371 ( bn.cons Yq ( bn.ay underlying387 type387 ( bn.ay underlying388 type388 ( bn.ay underlying391 type391 ( bn.ay underlying393 type393 ( bn.ay underlying395 type395 ( bn.ay underlying397 type397 ( bn.ay underlying398 type398 ( bn.ay underlying400 type400 ( bn.cons Yr (bn.nil)))))))))))))))))))))))))))))))))))))))))))))))))))))))))))))))))))))))))))))))))))))))))))))))
end R1
abbrev bE:=m UInt8
abbrev b2(a:bE):z:=ax (.V a)
abbrev S(a:Int):z:=ax (.int .i64 a)
abbrev uZ(a:Int):z:=ax (.int .u8 a)
abbrev bh(a:Bool):z:=ax (.bool a)
def xn{b}:kH b e=b.getD e 0:=rfl
namespace R1
variable {r:aj V}
def b6:Tryz.prog.follows Departure.mixedOrders=f:=rfl
def qQ{b:aj V}{CT}(i:a8 b CT)(bg){D}{be}(k){ar j}{F a}{p ao}{e}(m:AM.kS eR CT bg D k ar F p []=h (j,a,ao,e))(d:U e)(o:g b D be j .normal a ao):g b D be ar .normal F p:=g.aT b6 bd i bg k m d o
def gJ{d:aj V}(bg){D}{be}(k){ar j}{F a}{p ao}{e}(i:AM.kS eR [] bg D k ar F p []=h (j,a,ao,e))(b:U e)(m:g d D be j .normal a ao):g d D be ar .normal F p:=g.aT b6 bd a8.nil bg k i b m
def aZ{d:aj V}{D}{be}{ar j}{F a}{p ao}{e}(i:AM.kS eR [] [] D 100 ar F p []=h (j,a,ao,e))(b:U e)(k:g d D be j .normal a ao):g d D be ar .normal F p:=g.aT b6 bd a8.nil [] 100 i b k
def cu{d:aj V}{D}{be}{ar j}{F a}{p ao}{e}(i:AM.kS eR [] [] D 200 ar F p []=h (j,a,ao,e))(b:U e)(k:g d D be j .normal a ao):g d D be ar .normal F p:=g.aT b6 bd a8.nil [] 200 i b k
def a_{b:aj V}{CT}(i:a8 b CT)(bg){D}{be}{ar j}{F a}{p ao}{e}(k:AM.kS eR CT bg D 100 ar F p []=h (j,a,ao,e))(d:U e)(m:g b D be j .normal a ao):g b D be ar .normal F p:=g.aT b6 bd i bg 100 k d m
def bf{b:aj V}{CT}(i:a8 b CT)(bg){D}{be}{ar j}{F a}{p ao}{e}(k:AM.kS eR CT bg D 200 ar F p []=h (j,a,ao,e))(d:U e)(m:g b D be j .normal a ao):g b D be ar .normal F p:=g.aT b6 bd i bg 200 k d m
def a6{d:aj V}(bg){D}{be}{ar j}{F a}{p ao}{e}(i:AM.kS eR [] bg D 100 ar F p []=h (j,a,ao,e))(b:U e)(k:g d D be j .normal a ao):g d D be ar .normal F p:=g.aT b6 bd a8.nil bg 100 i b k
def bQ{d:aj V}(bg){D}{be}{ar j}{F a}{p ao}{e}(i:AM.kS eR [] bg D 200 ar F p []=h (j,a,ao,e))(b:U e)(k:g d D be j .normal a ao):g d D be ar .normal F p:=g.aT b6 bd a8.nil bg 200 i b k
def b_{b:aj V}{CT}(i:a8 b CT){D}{be}{ar j}{F a}{p ao}{e}(k:AM.kS eR CT [] D 100 ar F p []=h (j,a,ao,e))(d:U e)(m:g b D be j .normal a ao):g b D be ar .normal F p:=g.aT b6 bd i [] 100 k d m
def cJ{b:aj V}{CT}(i:a8 b CT){D}{be}{ar j}{F a}{p ao}{e}(k:AM.kS eR CT [] D 200 ar F p []=h (j,a,ao,e))(d:U e)(m:g b D be j .normal a ao):g b D be ar .normal F p:=g.aT b6 bd i [] 200 k d m
def ll(a:Int):Bool:=decide (97<=a)&&decide (a<=101)
theorem V6(j):Y r 113 [uZ j] [] (bh (ll j)) []:=by
 refine Y.K func113 rfl λ_=>?_;by_cases b:97<=j
 .refine a6 [(4,f)] a ?_ (g.aw a ?_)<;>simp[b,ll]
 refine a6 [(4,l)] a ?_ (g.aw a ?_)<;>simp[b,ll]
def jn(a:UInt8):Bool:=decide (97<=a.toNat)&&decide (a.toNat<=122)
def d6(a:bE):Bool:=a.all jn
def aah{b}(d:∀a,a<c b->jn (b.getD a 0)=f):d6 b=f:=by simp[d6,List.all_eq_true];grind[List.getElem_of_mem]
def aae{b}(e:w<c b)(d:jn (b.getD w 0)=l):d6 b=l:=by
 cases a:d6 b with
 |false=>rfl
 |true=>
  simp[d6,List.all_eq_true]at a;grind
theorem VA(b):Y r 114 [b2 b] [] (bh (d6 b)) []:=by
 refine Y.K func114 rfl λe=>?_;have o:=e.V 0 a;refine aZ a v (g.eh (λd=>d<=c b/\∀w,w<d->jn (b.getD w 0)=f) (λd:Nat=>[(0,b2 b),(3,S d)]) (λ_=>[]) (λd=>c b-d) 0 a E ⟨by omega,by omega⟩ a ?_);rintro d ⟨i,s⟩;by_cases u:d<c b
 .generalize x:b.getD d 0=j;by_cases m:j.toNat<97
  .refine a6 [(7,f),(13,f)] a ?_ (g.bS (bW.zero a ?_))
   .simp only[U,xn,bA,x];omega
   exact zN
  by_cases k:j.toNat>122
  .refine a6 [(7,f),(13,l),(18,f)] a P9 (g.bS (bW.zero a ?_));exact zN
  refine a6 [(7,f),(13,l),(18,l)] a N4 (g.again (d+1) a E ?_ ?_ a)
  .refine⟨by omega,λw I=>?_⟩;rcases As.1 I with I|rfl
   .grind
   rw[x];simp[jn,cE,bA];omega
  omega
 exact Of
end R1
def Y.args{P:aI}{i:aj P}{j}{args a}{p ao}{res}(k:Y i j a p res ao)(e:∀b B,b5 p b B args->b5 p b B a):Y i j args p res ao:=
 ⟨k.1,λb B g d=>k.2 b B (e b B g) d⟩
def jW(d:Nat):z->Option (Nat×(Nat->m N))
 |.n (.aq (.c (.S _ e b a)))=>match af e d with
  |true=>h (b,a)
  |false=>match af b 0 with
   |true=>h (0,λ_=>[])
   |false=>n
 |_=>n
def acr{C}{s}{k}{e:Nat->m N}(a:jW C s=h (k,e)){p}{b}{aa}(t:bx p b aa s):Rd b.u aa (.S l C k e):=by
 unfold jW at a;split at a
 .rename_i q i d dI;split at a
  .rename_i g;have o:=di g;subst o;cases a;exact(b7 t).eg
  split at a
  .rename_i w;have o:=di w;subst o;cases a;have r:=b7 t;cases r with
   |S v j x u D F g z A B=>exact Rd.S v j x u D E y y y y
  grind
 grind
def gr{b:Type}(d:b->m N)(a:b)(g:m b):Nat->m N:=λe=>d (g.getD e a)
structure cZ(α:Type) where
 bj:Nat
 a8:α->m N
 cm:m N->α
 I:α
 inv:∀x,cm (a8 x)=x
 len:∀x,c (a8 x)=bj
namespace cZ
variable {α:Type}(s:cZ α)
def af(d:Nat)(a:Nat->m N):m α:=(aC d).map λb=>s.cm (a b)
def fn(a:m α):Nat->m N:=gr s.a8 s.I a
def bU(d:Nat)(a:Nat->m N):Prop:=∀b,b<d->a b=s.a8 (s.cm (a b))
def S(a:m α):z:=ax (.S l s.bj (c a) (s.fn a))
def jr{k}{a:Nat->m N}:c (s.af k a)=k:=by simp[af]
def E(d):s.af (c d) (s.fn d)=d:=by
 apply rm
 .simp[af]
 intro e b a;simp[af,fn,gr,al,bI a,s.inv]
def U(d){k}:s.bU k (s.fn d):=λa _=>by simp[fn,gr,s.inv]
def iS{k}{a:Nat->m N}(d:s.bU k a):bt k a (s.fn (s.af k a)):=by intro e b;rw[d e b];simp[fn,gr,af,al,b]
def cC{d}{k}{a:Nat->m N}(j:jW s.bj d=h (k,a))(g:s.bU k a){p}{b}{aa}(o:bx p b aa d):bx p b aa (s.S (s.af k a)):=by have e:=acr j o;have i:=e.cA (s.iS g);show Rd b.u aa (.S l s.bj (c (s.af k a)) _);rw[s.jr];exact i
end cZ
def dk(b:bE)(a:Nat):Int:=(b.getD a 0).toNat
theorem kf(b)(w):((kH b w).toNat:Int)=dk b w.toNat:=rfl
abbrev c':=bE×bE
def vZ(a:m N)(b:Nat):bE:=match c7 b a with|some (.V d)=>d|_=>[]
def td(a:m N)(b:Nat):Int:=match c7 b a with|some (.int _ d)=>d|_=>0
def bD:cZ c':={bj:=2,a8:=λb=>[.V b.1,.V b.2],cm:=λa=>(vZ a 0,vZ a 1),I:=([],[]),inv:=λ_=>rfl,len:=λ_=>rfl}
namespace R1
variable {r:aj V}
def A1:bL:=λargs a=>match args,a with
 |[.n (.aq (.c (.int .u8 b)))],[]=>h (bh (ll b),[],[])
 |_,_=>n
def ac3:bM r 113 A1:=by intro args g b d a e _;unfold A1 at e;grind[V6]
def xo:bL:=λargs a=>match args,a with
 |[.n (.aq (.c (.V b)))],[]=>h (bh (d6 b),[],[])
 |_,_=>n
def t114:bM r 114 xo:=by intro args g b d a e _;unfold xo at e;grind[VA]
def HL:m (Nat×bL):=[(113,A1),(114,xo)]
def qk:a8 r HL:=a8.cons ac3 (a8.cons t114 a8.nil)
def fK(a:bE):Bool:=if c a=1 then ll (dk a 0)else if c a=3 then ll (dk a 0)&&(dk a 1==47)&&ll (dk a 2)else l
theorem Wz(b):Y r 64 [b2 b] [] (bh (fK b)) []:=by
 refine Y.K func64 rfl λi=>?_;by_cases ai:c b=1
 .refine a_ qk [(6,f)] a zZ (g.aw a ?_);simp[fK,ai,kf]
 by_cases d:c b=3
 .by_cases j:ll (dk b 0)=f
  .by_cases e:dk b 1=47
   .refine a_ qk [(6,l),(11,f),(14,f),(18,f)] a ?_ (g.aw a ?_)
    .simp[d,kf,j,e]
    simp[fK,d,j,e,kf]
   refine a_ qk [(6,l),(11,f),(14,f),(18,l)] a ?_ (g.aw a ?_)
   .simp[d,kf,j,e]
   simp[fK,d,j,e]
  refine a_ qk [(6,l),(11,f),(14,l)] a ?_ (g.aw a ?_)
  .simp[d,kf,j]
  simp[fK,d,j]
 refine a_ qk [(6,l),(11,l)] a bV (g.aw a ?_);simp[fK,ai,d]
def fD(a:bE):Bool:=decide (c a<=40)&&d6 a
theorem Xx(b):Y r 65 [b2 b] [] (bh (fD b)) []:=by
 refine Y.K func65 rfl λe=>?_;by_cases d:c b<=40
 .refine a_ qk [(5,f)] a bV (g.aw a ?_);simp[fD,d]
 refine a_ qk [(5,l)] a bV (g.aw a ?_);simp[fD,d]
def k9(a b:bE):Bool:=(c a != c b)&&(dk a 0==dk b 0)
def TR(b j)(d:b≠[])(e:j≠[]):Y r 66 [b2 b,b2 j] [] (bh (k9 b j)) []:=by
 have k:=AB.2 d;have i:=AB.2 e;refine Y.K func66 rfl λm=>?_;by_cases I:c b=c j
 .refine a6 [(9,l)] a sh (g.aw a ?_);simp[k9,I]
 refine a6 [(9,f)] a bw (g.aw a ?_);simp[k9,I,kf]
end R1
def ra(d a:m an):Prop:=∀b,bb d b->bb a b/\cN d b a b/\∀g(e:z),bx d b g e->bx a b g e
def C7:an->an->Option (m Prop)
 |.r i s k d,.r a e g b=>match af i a,af s e with
  |true,f=>h [k=g,bt k d b]
  |_,_=>n
 |.cells i r,.cells a j=>match af i a with
  |true=>qF r j
  |false=>n
 |.x,.x=>h []
 |.J H,.J o=>h [H=o]
 |.loop v u w,.loop q p t=>h [an.loop v u w=an.loop q p t]
 |.bn,.bn=>h []
 |.h i s k d,.h a e g b=>match af i a,af s e with
  |true,f=>h [k=g,bt k d b]
  |_,_=>n
 |_,_=>n
def jm:m an->m an->Option (m Prop)
 |[],[]=>h []
 |b::i,d::g=>match C7 b d with
  |some e=>match jm i g with
   |some a=>h (gB e a)
   |none=>n
  |none=>n
 |_,_=>n
def wK(k e:an):Prop:=
 (∀d i g a,k=.r d i g a->∃b,e=.r d i g b/\bt g a b)/\((∀d i g a,k≠.r d i g a)->(∀d i g a,e≠.r d i g a)/\(k=e∨(∃d m j,k=.cells d m/\e=.cells d j/\∀o p B,bN o p B m->bN o p B j)∨∃d i g a b,k=.h d i g a/\e=.h d i g b/\bt g a b))
theorem Z_{A g}(d:C7 A g=h ab)(m:U ab):wK A g:=by
 unfold C7 at d;split at d
 .rename_i W i k T j x e b;split at d
  .rename_i s v;cases d;have o:=di s;have w:=di v;obtain⟨t,D⟩:k=e/\bt k T b:=m;subst o w t;refine⟨λeJ J M C he=>?_,λK=>absurd a (K _ _ _ _)⟩;grind
  grind
 .rename_i W ah j p;split at d
  .rename_i s;have o:=di s;subst o;exact⟨λ_ _ _ _ he=>q6,λ_=>⟨λ_ _ _ _ he=>q6,.inr (.inl ⟨W,ah,p,a,a,λN O B y=>C9 d m y⟩)⟩⟩
  grind
 .exact E9
 .cases d;rename_i H q;have u:H=q:=m;subst u;exact E9
 .cases d;rename_i F E y I r z;have u:an.loop F E y=an.loop I r z:=m;exact⟨λ_ _ _ _ he=>q6,λ_=>⟨λ_ _ _ _ he=>q6,.inl u⟩⟩
 .exact E9
 .rename_i W i k T j x e b;split at d
  .rename_i s v;cases d;have o:=di s;have w:=di v;obtain⟨t,D⟩:k=e/\bt k T b:=m;subst o w t;exact⟨λ_ _ _ _ he=>q6,λ_=>⟨λ_ _ _ _ he=>q6,.inr (.inr ⟨W,i,k,T,b,a,a,D⟩)⟩⟩
  grind
 grind
def J5:∀{i d:m an}{e:m Prop},jm i d=h e->U e->c d=c i/\∀(j:Nat)g b,i[j]?=h g->d[j]?=h b->wK g b
 |[],[],_,_,_=>⟨rfl,λj g b a=>by grind⟩
 |[],_::_,_,a,_=>by cases a
 |_::_,[],_,a,_=>by cases a
 |o::v,p::u,e,a,k=>by
  simp only[jm]at a;split at a
  .rename_i t q;split at a
   .rename_i afh dq;cases a;rw[U.Y]at k;obtain⟨s,r⟩:=J5 dq k.2;grind[Z_]
   grind
  grind
def jP(D:jm p ao=h ab)(ae:U ab):ra p ao:=by
 obtain⟨ax,aF⟩:=J5 D ae;intro C G;have aA:∀(j:Nat) r,p[j]?=h r->∃s,ao[j]?=h s/\wK r s:=M;have get:∀(j:Nat) (s:an),ao[j]?=h s->∃r,p[j]?=h r/\wK r s:=M;have az:∀(j:Nat),(∀r,p[j]?=h r->r.dN=l)->∀r,ao[j]?=h r->r.dN=l:=by
  intro j ad s q;obtain⟨r,aE,x⟩:=get j _ q;have aw:=ad r aE;rcases(x.2 (λg i k b v=>by rw[v]at aw;cases aw)).2 with rfl|⟨g,e,N,rfl,rfl,_⟩|⟨g,i,k,b,d,rfl,rfl,_⟩
  .omega
  .rfl
  exact cQ
 have aP:∀(j:Nat) g i k b,ao[j]?=h (an.h g i k b)->∃d,p[j]?=h (an.h g i k d):=by
  intro j g i k b q;obtain⟨r,aE,x⟩:=get j _ q;by_cases A:∃g i k b,r=an.r g i k b
  .obtain⟨E1,k1,ah,lQ,rfl⟩:=A;obtain⟨d,t,_⟩:=x.1 _ _ _ _ rfl;cases t
  rcases(x.2 (λg i k b v=>A ⟨g,i,k,b,v⟩)).2 with rfl|⟨g,e,N,rfl,D,_⟩|⟨g,i,k,b,d,rfl,D,_⟩
  .grind
  .cases D
  grind
 have aL:∀(j:Nat) g i k b,ao[j]?=h (an.r g i k b)->∃d,p[j]?=h (an.r g i k d):=by
  intro j g i k b q;obtain⟨r,aE,x⟩:=get j _ q;by_cases A:∃g i k b,r=an.r g i k b
  .obtain⟨E1,k1,ah,lQ,rfl⟩:=A;obtain⟨d,t,_⟩:=x.1 _ _ _ _ rfl;grind
  exact absurd a ((x.2 (λg i k b v=>A ⟨g,i,k,b,v⟩)).1 g i k b)
 have ar:∀(y:Z) (R:O),cx p C y R->cx ao C y R:=by
  intro y R o;cases R with
  |c aJ=>exact o
  |ptr j aQ=>exact⟨az j o.1,o.2⟩
  |r j i k b=>
   refine⟨o.1,by rw[ax];exact o.2.1,λg I J d q=>?_⟩;obtain⟨kJ,u⟩:=aL j g I J d q;exact o.2.2 g I J kJ u
  |aR j=>exact⟨az j o.1,o.2⟩
  |R j aR=>
   obtain⟨ag,ai,aG,aH⟩:=o;refine⟨ag,ai,by grind,λg I J d q=>?_⟩;grind
  |any=>exact o
 have aj:∀(B:m Z) (e:m O),bN p C B e->bN ao C B e:=by
  intro B;induction B with
  |nil=>intro e o;cases e with|nil=>trivial|cons _ _=>exact o.elim
  |cons y B F=>intro e o;cases e with|nil=>exact o.elim|cons aD e=>exact⟨ar _ _ o.1,F _ o.2⟩
 have au:∀(y:Z) (v:E1),et p C y v->et ao C y v:=by
  intro y v o;cases v with
  |aq R=>exact ar _ _ o
  |agg e=>obtain⟨B,t,u⟩:=o;exact⟨B,t,aj _ _ u⟩
 have aN:∀(B:m Z) (e:m E1),eS p C B e->eS ao C B e:=by
  intro B;induction B with
  |nil=>intro e o;cases e with|nil=>trivial|cons _ _=>exact o.elim
  |cons y B F=>intro e o;cases e with|nil=>exact o.elim|cons aD e=>exact⟨au _ _ o.1,F _ o.2⟩
 have av:∀(y:Z) (T:z),bx p C y T->bx ao C y T:=by
  intro y T o;cases T with
  |n aJ=>exact au _ _ o
  |Q aK=>obtain⟨B,t,u⟩:=o;exact⟨B,t,aN _ _ u⟩
  |any=>trivial
 refine⟨⟨G.mem,by rw[G.len,ax],?_,G.a3,G.lt,G.own⟩,⟨bC _,λ_ _ _=>rfl,λ_ _ _ D=>D,λ_ _ _ _=>rfl,λL D Q w=>.inr ⟨L,D,w⟩,?_,a,a,a,a⟩,av⟩
 .intro j s L ak W;obtain⟨r,aE,x⟩:=get j s ak;have w:=G.box j r L aE W;by_cases A:∃g i k b,r=an.r g i k b
  .obtain⟨g,i,k,b,rfl⟩:=A;obtain⟨d,rfl,q⟩:=x.1 _ _ _ _ rfl;refine⟨w.1.cA q,?_⟩;rcases w.2 with⟨t,u⟩|t
   .exact .inl ⟨t,u.cA q⟩
   grind
  rcases(x.2 (λg i k b v=>A ⟨g,i,k,b,v⟩)).2 with rfl|⟨g,e,N,rfl,rfl,S⟩|⟨g,i,k,b,d,rfl,rfl,S⟩
  .cases r with
   |cells g e=>obtain⟨Q,B,t,u,E,K⟩:=w;exact⟨Q,B,t,u,aj _ _ E,K⟩
   |r g i k b=>grind
   |J H=>exact w
   |x=>trivial
   |loop aO aM o=>obtain⟨j,tmps,fn,aB,t,u,E,K,V⟩:=w;exact⟨j,tmps,fn,aB,t,u,E,λaI=>av _ _ (K aI),V⟩
   |bn=>exact w
   |h g i k b=>exact w
  .obtain⟨Q,B,t,u,E,K⟩:=w;exact⟨Q,B,t,u,aj _ _ (S _ _ _ E),K⟩
  rcases w with w|⟨Q,X,B,aq,t,u,E,K,V,Y,aa⟩
  .exact .inl w
  exact .inr ⟨Q,X,B,aq,t,u,E,K,V,Y.cA S,aa⟩
 intro j r L aE W;obtain⟨s,ak,x⟩:=aA j r aE;refine⟨s,L,ak,W,?_⟩;by_cases A:∃g i k b,r=an.r g i k b
 .obtain⟨g,i,k,b,rfl⟩:=A;obtain⟨d,rfl,q⟩:=x.1 _ _ _ _ rfl;exact⟨λ_=>rfl,bC _⟩
 rcases(x.2 (λg i k b v=>A ⟨g,i,k,b,v⟩)).2 with rfl|⟨g,e,N,rfl,rfl,S⟩|⟨g,i,k,b,d,rfl,rfl,_⟩
 .exact fE.refl _ _
 .exact a
 exact⟨λ_=>rfl,bC _⟩
section
variable {r:aj P}
theorem b0.aU{aN}{e}(E:∀d g,bY D p d F g->bb p d->∃a:a5,a.a=d.a/\bY D ao a e g/\bb ao a/\cN p d ao a)(K:b0 r D s aN e ao):b0 r D s aN F p:=by intro d g N b A u m z t q;obtain⟨a,M,C,x,w⟩:=E d g N b;have y:=w.too1 b;refine .aU (.of b x M y) ?_;exact K a g C x A u m z t λB I j v k O J o i=>q B I j v k O J o (y.trans i)
theorem g.aU{b}{ao}(i:∀d e,bY D p d F e->bb p d->∃a:a5,a.a=d.a/\bY D ao a b e/\bb ao a/\cN p d ao a)(j:g r D be (.code s::ar) .normal b ao):g r D be (.code s::ar) .normal F p:=
 b0.aU i j
def bY.al{i:Act}(a:ra p ao)(e:bY D p b F i)(d:bb p b):bY D ao b F i:=⟨e.size,e.defers.imp λ_ g=>g.mono (a b d).2.1.ext,λj=>(a b d).2.2 _ _ (e.aH j)⟩
def g.bf(ao)(d:jm p ao=h ab)(b:U ab)(j:g r D be (.code s::ar) .normal F ao):g r D be (.code s::ar) .normal F p:=
 g.aU (λe k i a=>⟨e,rfl,i.al (jP d b) a,(jP d b e a).1,(jP d b e a).2.1⟩) j
def g.bK(q)(W)(i){gb}(y:look F q=ax (.S f gb k T))(b:k=0)(t:g r D be (.code s::ar) .normal ((q,.n (.aq (.r (c p) i k T)))::F) (p++[.r W i k T])):g r D be (.code s::ar) .normal F p:=by
 refine g.aU (λj d e bP=>?_) t;have u:=e.aH q;rw[y]at u;have a:=Rd.fU (i:=gb) (gb:=i) (.inr b) (b7 u);have aE:er (p++[.r W i k T]) {j with l:=j.l++[⟨d.tmps.getD q K,[]⟩]} (.r W i k T) ⟨d.tmps.getD q K,[]⟩:=⟨a.eg,.inl ⟨⟨rfl,b⟩,a⟩⟩;obtain⟨x,m⟩:=bP.b0 (.refl _ _) rfl bP aE E
 refine⟨{j with l:=j.l++[⟨d.tmps.getD q K,[]⟩]},rfl,⟨e.size,e.defers.imp λ_ a=>a.mono m.ext,λv=>?_⟩,x,m⟩;simp only[look];cases o:af q v with
 |false=>exact(e.aH v).mono m.ext bP.len
 |true=>
  have w:=di o;subst w;exact tx (L:=⟨d.tmps.getD q K,[]⟩) E t' aE
def g.ca{M:Type}(K:M->Prop)(e:M->bH)(b:M->m an)(w:M->Nat)(o){I:m Prop}(aD:iS F (e o)=h ab)(ak:U ab)(av:jm p (b o)=h I)(N:U I)(O:K o)(round:∀o,K o->g r D (λu A B=>match u with
   |.normal=>∃X,K X/\w X<w o/\iA A (e X)/\ra B (b X)
   |u=>g r D be ar u A B) [.code s] .normal (e o) (b o)):g r D be (.code (.loop s)::ar) .normal F p:=by
 intro ag x ao y j Y T R W V;have ad:=jP av N;obtain⟨aA,aB,_⟩:=ad ag y;refine xc (λk d az=>∃X,K X/\bY D (b X) az (e X) d/\bb (b X) az/\dc p ag (b X) az/\w X=k) ?_ ?_ ⟨o,O,(ao.le (eD aD ak)).al ad y,aA,aB.too1 y,a⟩
 .rintro k d az ⟨X,Z,q,C,Q,u⟩;exact⟨b X,C,λH v=>⟨X,Z,q.rely v C,C.rely v,Q.trans v.aV,u⟩⟩
 rintro k d az ⟨X,Z,q,C,Q,rfl⟩ G;refine round X Z az d q C j (.inLoop s::Y) T R W ?_;intro u aE aj J S ae ah i t;cases u with
 |normal=>
  obtain⟨ai,z,au,aq,aa⟩:=ae;obtain⟨ax,aw,_⟩:=aa J i;exact G S J (w ai) au ⟨ai,z,(ah.le aq).al aa i,ax,Q.trans (t.trans (aw.too1 i)),a⟩
 |_=>exact kI.cons (λ_ _=>rfl) E (V _ _ _ _ _ ae ah i (Q.trans t))
def g.b6{b:Type}{q:b->Prop}{e:b->bH}{i:b->m an}{x:b->Nat}{t:b}{k:fs}(X){dr}(u:iS F (e X)=h ab)(v:U ab)(j:jm p (i X)=h dr)(y:U dr)(z:q X)(s:x X<x t):
  g r D (λo a d=>match o with
   |.normal=>∃X,q X/\x X<x t/\iA a (e X)/\ra d (i X)
   |o=>k o a d) [] .normal F p:=⟨X,z,s,eD u v,jP j y⟩
end
def Y.b2{w:aj P}{z}{args}{res d}(i:Y w z args [] res ao)(C:km res d=h ab)(D:U ab)(x:hM 0 d=f):Y w z args [] d []:=by
 refine⟨i.1,λb B u k A o s=>i.2 b B u k A o λq F m t v g e=>?_⟩;have K:b.l=[]:=jA k.len;have E:eW m {m with l:=[]}:=⟨rfl,λ_ _ _ i=>i,λ_ _ _=>rfl,g.mem,λy j=>.inl M⟩
 refine .aU E (s q F {m with l:=[]} (t.mono λ_ _ _ i=>i) ?_ ⟨g.mem,rfl,by simp,by simp,by simp,λy j=>⟨(g.own y j).1,by simp⟩⟩ ⟨e.size,e.a6,e.mem,e.bE,by simp,λN J L aE=>by grind,e.os,e.tape,e.output,e.own⟩);have r:=pr C D v;have:=bx.sub (aP:=[]) (p:=ao) (ao:=[]) (b:=m) (lz:=[]) (I:=d) a a (by rw[LG x];exact r) x;omega
section drop
variable {aM bs:m an}
def vh(b:Nat):an->Bool
  |.cells _ a=>lj b a
  |.loop ..=>l
  |_=>f
def kk(a:Nat):m an->Bool
  |[]=>f
  |b::d=>match vh a b with|true=>kk a d|false=>l
def JT{k}:∀{e:m an},kk k e=f->∀a∈e,vh k a=f
  |[],_,a,aE=>by grind
  |g::i,b,a,aE=>by
    simp[kk]at b;cases d:vh k g with
    |false=>grind
    |true=>
      simp[d]at b;rcases fo.1 aE with rfl|aE
      · exact d
      · exact JT b a aE
def er.fz{d}{L}(k:vh (c aM) d=f)(a:er (aM++bs) b d L):er aM (b.cut (c aM)) d L:=by
  cases d with
  |cells j p=>
    obtain⟨m,B,g,i,q,o⟩:=a;exact⟨m,B,g,i,bN.cH q k,o⟩
  |r j r s e=>exact a
  |J H=>exact a
  |x=>trivial
  |loop u t v=>simp[vh]at k
  |bn=>exact a
  |h j r s e=>exact a
def bb.drop(u:bb (aM++bs) b)(r:kk (c aM) aM=f):bb aM (b.cut (c aM)):=by
  have m:c aM<=c b.l:=ES;refine⟨u.mem,by simp[a5.cut,m],?_,?_,?_,λe a=>⟨(u.own e a).1,λL d=>(u.own e a).2 L (hf d)⟩⟩
  · intro i p L aE d
    have q:i<c aM:=(cO.1 aE).1;simp[a5.cut,io,q,dH]at d;exact er.fz (bs:=bs) (JT r p (b9 aE)) (u.box i p L M d)
  · intro i o L j d k e a g
    simp only[a5.cut,io]at d k;split at d<;>split at k<;>first|exact u.a3 i o L j d k e a g|grind|grind
  · intro L d e a
    exact u.lt L (hf d) e a
def i1.drop(p:jQ bs=f):∀{e:m Deferred} {g:m Nat},i1 (aM++bs) b e g->i1 aM (b.cut (c aM)) e g
  |[],[],_=>trivial
  |[],_::_,j=>j.elim
  |_::_,[],j=>j.elim
  |u::e,q::g,⟨⟨d,L,j,o,t⟩,r,s⟩=>by
    have i:q<c aM:=by
      rcases dY q (c aM) with k|k
      · exact k
      · rw[hq k]at d
        exact absurd a (vw p _ (b9 d))
    rw[kA i]at d;exact⟨⟨d,L,j,by simp[a5.cut,io,i,dH];exact o,t⟩,r,i1.drop p s⟩
def vz(b:Nat)(a:m an):Bool:=match ay b (c a) with|true=>jQ (a.drop b)|false=>l
theorem yL(a:vz k p=f):ay k (c p)=f/\jQ (p.drop k)=f:=by unfold vz at a;grind
end drop
def qE(a:Nat):bH->Bool
  |[]=>f
  | (_,b)::d=>match hM a b with|true=>qE a d|false=>l
def vi{k}:∀{d:bH} {a:Nat},qE k d=f->hM k (look d a)=f
  |[],a,_=>rfl
  | (i,g)::j,a,b=>by
    simp[qE]at b;cases e:hM k g with
    |false=>grind
    |true=>
      simp[e]at b;simp[look];cases af i a with
      |true=>exact e
      |false=>exact vi b
section
variable {r:aj P}
def mf{e:Type}(w:aj P)(v:Nat)(k:fs)(u:m ij)(t:e->Prop)(s:e->bH)(q:e->m an)(r:e->Nat)(p:Nat)(x:e):fs:=λo d i=>match o with
  |.normal=>∃j,t j/\r j<r x/\iA d (s j)/\qE p (s j)=f/\∃a b,i=a++b/\c a=p/\(kk p a=f/\jQ b=f)/\ra a (q j)
  |o=>g w v k u o d i
def g.aL{J:Type}(k)(B:J->Prop)(i:J->bH)(b8:J->m an)(Y:J->Nat)(o){dr}(au:iS F (i o)=h ab)(az:U ab)(aH:jm p (b8 o)=h dr)(aN:U dr)(aE:c p=k)(av:B o)(round:∀o,B o->g r D (mf r D be ar B i b8 Y k o) [.code s] .normal (i o) (b8 o)):g r D be (.code (.loop s)::ar) .normal F p:=by
  intro aj x aA v j W S K d T;have w:=jP aH aN;obtain⟨aM,N,_⟩:=w aj v;refine xc (λag e b=>∃X,B X/\bY D (b8 X) b (i X) e/\bb (b8 X) b/\dc p aj (b8 X) b/\Y X=ag) ?_ ?_ ⟨o,av,(aA.le (eD au az)).al w v,aM,N.too1 v,a⟩
  · rintro k e b ⟨X,Q,O,C,I,ai⟩
    exact On
  rintro ag e b ⟨X,Q,O,C,I,rfl⟩ V;refine round X Q b e O C j (.inLoop s::W) S K d ?_;intro ai aO ao A R ah G u q;cases ai with
  |normal=>
    obtain⟨ak,ax,aG,aF,aP,t,Z,rfl,ae,⟨H,aq⟩,aJ⟩:=ah;have aa:=u.drop M;obtain⟨aL,ad,aI⟩:=aJ _ aa;have z:=G.le aF;have aB:eW A (A.cut (c t)):=⟨rfl,λ_ _ _ aD=>aD,λ_ _ _=>rfl,u.mem,λj d=>d.imp id λ⟨L,aw,d⟩=>⟨L,hf aw,d⟩⟩
    refine .aU aB (V R (A.cut (c t)) (Y ak) aG ⟨ak,ax,⟨z.size,z.defers.imp λ_ cS=>(cS.drop aq).mono ad.ext,λaK=>aI _ _ ((z.aH aK).drop (vi M))⟩,aL,?_,a⟩);exact((I.trans q).drop y).trans (ad.too1 aa)
  |_=>exact kI.cons (λ_ _=>rfl) E (T _ _ _ _ _ ah G u (I.trans q))
def g.h7{d:Type}{q:d->Prop}{a:d->bH}{b:d->m an}{i:d->Nat}{o}{e}(X){dr}(u:iS F (a X)=h ab)(y:U ab)(s:qE k (a X)=f)(x:vz k p=f)(j:jm (p.take k) (b X)=h dr)(w:U dr)(v:kk k (p.take k)=f)(z:q X)(t:i X<i o):
    g r D (mf r D be e q a b i k o) [] .normal F p:=
  ⟨X,z,t,eD u y,s,p.take k,p.drop k,(F2 k p).symm,by grind[Nat.le_of_ble_eq_true,yL],⟨v,(yL x).2⟩,jP j w⟩
def g.aA{e:Type}{k}{i:e->Prop}{a:e->bH}{d:e->m an}{x:e->Nat}{o}{u}(X){ab dr}(b:(iS F (a X),qE k (a X),vz k p,jm (p.take k) (d X),kk k (p.take k))=(h ab,f,f,h dr,f))(s:U ab)(t:U dr)(q:i X)(j:x X<x o):
    g r D (mf r D be u i a d x k o) [] .normal F p:=by simp[lG]at b;exact g.h7 X b.1 s b.2.1 b.2.2.1 b.2.2.2.1 t b.2.2.2.2 q j
def g.aC{bq:Type}{cD:bq->Prop}{hv:bq->bH}{b8:bq->m an}{j:bq->Nat}{o}{id}{s x I}(i:g r D be I .normal F p)(cS:iO id s=n:=by exact rfl)(dq:iO id x=h I:=by exact rfl):
    g r D (mf r D be x cD hv b8 j k o) (.code (.exit id)::s) .normal F p:=
  b0.mono (g.bt (O:=λdE ao=>mf r D be x cD hv b8 j k o .normal dE ao) cS dq i) λai dE ao bc=>by
    have key:∀ar ai,g r D (λai dE ao=>match ai with
        |.normal=>mf r D be x cD hv b8 j k o .normal dE ao
        |ai=>g r D be x ai dE ao) ar ai dE ao->g r D (mf r D be x cD hv b8 j k o) ar ai dE ao:=by
      have ai:(λai dE ao=>match ai with
        |.normal=>mf r D be x cD hv b8 j k o .normal dE ao
        |ai=>g r D be x ai dE ao)=mf r D be x cD hv b8 j k o:=by funext ai dE ao;cases ai<;>rfl
      grind
    exact key _ _ bc
def g.aX{a:Type}{e:a->Prop}{b:a->bH}{d:a->m an}{q:a->Nat}{o}{i j}(s:be .ret F p):g r D (mf r D be j e b d q k o) (.code .ret::i) .normal F p:=
  g.ret (g.dK (be:=be) s)
theorem bY.freeze(q d){ah}{gC}(ak:look F q=aG d 0)(O:c7 d p=h (.cells W ah))(aa:h3 ah=h gC){x}(A:bY D p b F x)(g:bb p b):∃j:a5,j.a=b.a/\bY D (p.set d .x) j ((q,ax (.O gC))::F) x/\bb (p.set d .x) j/\cN p b (p.set d .x) j:=by
  have aE:=ej O;have ae:d<c p:=(cO.1 aE).1;have Y:=A.aH q;rw[ak]at Y;obtain⟨_,L,s,R,T,aj⟩:=Y;obtain⟨v,B,t,J,z,G⟩:=g.box d _ L aE R;subst t;simp at T;subst T;let j:a5:={b with u:=λX u=>if X=v then B[u]? else b.u X u}
  have r:cN p b (p.set d .x) j:=by
    refine⟨bC _,λ_ _ _=>rfl,?_,?_,λL ab s k=>.inr ⟨L,ab,k⟩,?_,a,a,a,a⟩
    · grind
    · intro s k Q u
      have ag:s≠v:=λai=>Q _ (b9 R) zZ;grind
    · intro o E m e i
      by_cases ai:d=o
      · subst ai
        rw[aE]at e;cases e;exact⟨.x,m,by grind,i,a⟩
      · exact⟨E,m,by grind,i,.refl _ _⟩
  refine⟨j,a,⟨A.size,A.defers.imp λ_ t=>t.mono r.ext,λZ=>?_⟩,⟨?_,by simp[g.len,j],?_,g.a3,g.lt,g.own⟩,r⟩
  · simp only[look]
    cases k:af q Z with
    |false=>exact(A.aH Z).mono r.ext g.len
    |true=>
      have ai:=di k;subst ai;rw[aj];have V:=rC aa z;refine Rd.O v 0 (λw=>(B[w]?).getD K) ?_ ?_
      · intro w I N
        obtain⟨C,U,_⟩:=V.get (w:=w) (x:=.c I) M;grind
      · intro w I N
        obtain⟨C,U,S⟩:=V.get (w:=w) (x:=.c I) M;simp[U,iq];exact Rd.mono r.mem S
  · intro s u C ad
    by_cases ai:s=v
    · subst ai
      have y:B[u]?=h C:=M;show b.a.cell? _=_;simp[aL,J,y]
    · exact g.mem s u C M
  · intro o E m e i
    by_cases ai:d=o
    · subst ai
      rw[im ae]at e;cases e;trivial
    · rw[kC ai]at e
      refine(g.box o E m e i).cb r.ext g.len λs k=>⟨a,λu=>?_⟩
      have ag:s≠v:=λan=>ai (g.a3 d o _ m R i s M k);grind
theorem g.freeze(q d){W}{ah}{gC}(i:look F q=aG d 0)(a:c7 d p=h (.cells W ah))(e:h3 ah=h gC)(b:g r D be (.code s::ar) .normal ((q,ax (.O gC))::F) (c_.cn d .x p)):g r D be (.code s::ar) .normal F p:=by grind[mP,g.aU,bY.freeze]
def g.aq{bs}{o}(b:aV r D all t F p o ao)(a:fd D t.dst=f)(d:g r D be (.ae all bs::ar) .normal (fT t.dst o F) ao):g r D be (.ae all (t::bs)::ar) .normal F p:=
  e'.dg b (la a) d
end
structure Ab(I:TypeDesc)(T:Array MapEntry)(i:Z)(x:Option (Nat×Z)):Prop where
 key:MapKept.IsKey I i
 cX:Instr.findNow I i T.toList 0=h x
 db:x=n->∀ai∈T.toList,ai.key≠i
 gH:∀w aa,x=h (w,aa)->∃ai,T[w]?=h ai/\ai.key=i/\ai.val=aa
def Jq{I}{T}{i}(a:MapKept.IsKey I i)(e:∀b∈T.toList,MapKept.IsKey I b.key):∃d,Ab I T i d:=by
 rcases MapKept.findNow_spec a T.toList 0 e with⟨j,C⟩|⟨w,b,j,C,A⟩
 .exact⟨n,a,j,λ_=>C,by simp⟩
 refine⟨_,a,j,by simp,λk m g=>?_⟩;grind
section
variable {Q:au}{s ae:av}{I:TypeDesc}{a':Nat}{T:Array MapEntry}{clock:Nat}{i:Z}{ok:Bool}
def LR(a:P.underlying s=h I):(underlying s).run P Q=.ok I Q:=by simp[underlying,a]
def x1(b:P.underlying s=h I)(d:MapKept.IsKey I i)(j)(a):(Instr.checkKey j 10000 s i).events P Q a=a:=by show(Instr.checkKey j (9999+1) s i).events P Q a=a;unfold Instr.checkKey;simp[aH,LR b,aJ,events_underlying];cases I<;>cases i<;>first|exact d.elim|simp
def x4{d}{e}(b:P.underlying s=h I)(g:Instr.findNow I i d 0=h e)(a):(Instr.findKey s i d).events P Q a=a:=by simp[Instr.findKey,LR b,g]
def x5(b:Q.heap[a']?=h (.map T clock))(a):(getObj a').events P Q a=a.push ⟨.obj a',l,l⟩:=by simp only[getObj,Sem.events,Sem.runT,b];rfl
def IX(d:Q.heap[a']?=h (.map T clock)){dI}{b}(a):(setObj a' (.map dI b)).events P Q a=a.push ⟨.obj a',f,l⟩:=by simp[setObj,Sem.events,Sem.runT,d];rfl
def LN(a:P.underlying s=h I)(b:MapKept.IsKey I i)(j):(Instr.checkKey j 10000 s i).run P Q=.ok () Q:=MapKept.run_checkKey a b j 9999
def Ke(t:P.underlying q=h (.map s ae))(b:P.underlying s=h I)(e:Q.heap[a']?=h (.map T clock)){g}(d:Ab I T i g){cL}(o:g=n->(zeroValue ae).run P Q=.ok cL Q):
  (Instr.lookup q (.map (h a')) i ok).run P Q=.ok (match g with
   |some (_,p)=>if ok=f then .tuple #[p,.bool f]else p
   |none=>if ok=f then .tuple #[cL,.bool l]else cL) Q/\(Instr.lookup q (.map (h a')) i ok).events P Q #[]=#[⟨.obj a',l,l⟩]:=by
 have k:(underlying q).run P Q=.ok (.map s ae) Q:=by simp[underlying,t]
 have m:=LN (Q:=Q) b d.key T.isEmpty;have j:(Instr.findKey s i T.toList).run P Q=.ok g Q:=MapKept.run_findKey b d.cX;cases g with
 |some r=>
  constructor
  .simp only[Instr.lookup,cH,k,c1,MapKept.run_getObj_map e,d8,m,j]
  simp only[Instr.lookup,aH,k,aJ,MapKept.run_getObj_map e,d8,Sem.events_pure,m,j,events_underlying,x5 e,x1 b d.key,x4 b d.cX];rfl
 |none=>
  constructor
  .simp only[Instr.lookup,cH,k,c1,MapKept.run_getObj_map e,d8,m,j,o a]
  simp only[Instr.lookup,aH,k,aJ,MapKept.run_getObj_map e,d8,Sem.events_pure,m,j,events_underlying,x5 e,x1 b d.key,x4 b d.cX,o a,events_zeroValue];rfl
def M8(y:P.underlying q=h (.map s ae))(a:P.underlying s=h I)(d:Q.heap[a']?=h (.map T clock)){g}{o}(e:Ab I T i g):
  (Instr.mapUpdate q (.map (h a')) i o).run P Q=.ok () {Q with heap:=Q.heap.setIfInBounds a' (match g with
   |some (p,_)=>.map (T.modify p λt=>{key:=i,val:=o,born:=t.born}) clock
   |none=>.map (T.push {key:=i,val:=o,born:=clock}) (clock+1))} /\
  (Instr.mapUpdate q (.map (h a')) i o).events P Q #[]=#[⟨.obj a',l,l⟩,⟨.obj a',f,l⟩]:=by
 have k:(underlying q).run P Q=.ok (.map s ae) Q:=by simp[underlying,y]
 have m:=LN (Q:=Q) a e.key l;have j:(Instr.findKey s i T.toList).run P Q=.ok g Q:=MapKept.run_findKey a e.cX;cases g with
 |some r=>
  obtain⟨p,z⟩:=r;obtain⟨t,v,w,_⟩:=e.gH p z rfl;have u:(Instr.keyThatStays i i).run P Q=.ok i Q:=MapKept.run_keyThatStays e.key;have x:∀b,(Instr.keyThatStays i i).events P Q b=b:=λb=>by simp[Instr.keyThatStays,MapKept.sameBits_self e.key]
  constructor
  .simp only[Instr.mapUpdate,cH,k,c1,MapKept.run_getObj_map d,m,j,v,lF,iq,w,u,MapKept.run_setObj_map _ d]
  simp only[Instr.mapUpdate,aH,k,aJ,MapKept.run_getObj_map d,m,j,v,lF,iq,w,u,x,events_underlying,x5 d,IX d,x1 a e.key,x4 a e.cX];rfl
 |none=>
  constructor
  .simp only[Instr.mapUpdate,cH,k,c1,MapKept.run_getObj_map d,m,j,MapKept.run_setObj_map _ d]
  simp only[Instr.mapUpdate,aH,k,aJ,MapKept.run_getObj_map d,m,j,events_underlying,x5 d,IX d,x1 a e.key,x4 a e.cX];rfl
end
def bb.b_(j:bb p b){j5:Z->(Nat->Option Obj)->Prop}{L cn}(aE:p[d]?=h (.J H))(A:b.l[d]?=h L)(G:cn.v=L.v)(R:b.a.heap.size<=bi.heap.size)(K:∀e,e<b.a.heap.size->e∉L.al->bi.heap[e]?=b.a.heap[e]?)(D:∀e∈cn.al,e∈L.al∨(b.a.heap.size<=e/\e<bi.heap.size))(x:∃q,j5 cn.v q/\(∀e u,q e=h u->bi.heap[e]?=h u)/\(∀e,e∈cn.al↔(q e).isSome=f))(Q:bi.os=b.a.os)(Y:bi.tape=b.a.tape)(N:bi.output=b.a.output):
  bb (p.set d (.J j5)) ⟨b.l.set d cn,b.u,bi,b.own⟩/\cN p b (p.set d (.J j5)) ⟨b.l.set d cn,b.u,bi,b.own⟩:=by
 have bz:d<c p:=(cO.1 aE).1;have ag:d<c b.l:=M;obtain⟨aa,_,_,_,z⟩:=j.box d _ L aE A;have X:∀e∈cn.al,∀u,b.u e u=n:=by
  intro e E u;rcases D e E with o|⟨o,_⟩
  .grind
  cases s:b.u e u with
  |none=>rfl
  |some U=>have:=j.block s;omega
 have B:cN p b (p.set d (.J j5)) ⟨b.l.set d cn,b.u,bi,b.own⟩:=by
  refine⟨R,M,λ_ _ _ j=>j,λ_ _ _ _=>rfl,M,?_,Q,Y,N,a⟩;intro g I k v y;by_cases C:d=g
  .subst C;rw[aE]at v;cases v;rw[A]at y;cases y;exact⟨.J j5,cn,by grind,by grind,G⟩
  exact⟨I,k,by grind,by grind,.refl _ _⟩
 have J:∀g k,(b.l.set d cn)[g]?=h k->(g=d/\k=cn)∨(d≠g/\b.l[g]?=h k):=M;refine⟨⟨?_,by simp[j.len],?_,?_,?_,?_⟩,B⟩
 .intro e u U s;have ah:=j.block s;have ab:e∉L.al:=λt=>by grind
  rw[<-j.mem e u U s];simp only[aL];grind
 .intro g I k v y;rcases J g k y with⟨rfl,rfl⟩|⟨C,m⟩
  .rw[im bz]at v;cases v;obtain⟨q,k1,V,O⟩:=x;exact⟨q,k1,V,O,X⟩
  rw[kC C]at v;refine(j.box g I k v m).cb B.ext j.len λe E=>⟨K e (j.lt k (b9 m) e E) λt=>C (j.a3 d g L k A m e t E),λ_=>rfl⟩
 .intro W F r k o m e i w;rcases J W r o with⟨rfl,rfl⟩|⟨dK,T⟩<;>rcases J F k m with⟨rfl,rfl⟩|⟨eG,S⟩
  .rfl
  .rcases D e i with t|t
   .exact j.a3 _ _ L k A S e t w
   have:=j.lt k (b9 S) e w;omega
  .rcases D e w with t|t
   .exact j.a3 _ _ r L T A e i t
   have:=j.lt r (b9 T) e i;omega
  exact j.a3 _ _ r k T S e i w
 .intro k y e w;rcases Ar y with o|o
  .exact eA (j.lt k o e w) R
  subst o;rcases D e w with m|m
  .exact eA (j.lt L (b9 A) e m) R
  grind
 intro e x;obtain⟨ae,ad⟩:=j.own e x;grind
section
variable {j5:Z->(Nat->Option Obj)->Prop}
end
def bW.di{fn}{d}{res}(aP)(e:pC fn.results.toList aP F res=h ab)(m:U ab)(k:dv aP p=h ao)(j:l4 ao=f)(i:e8 aP=f)(g:∀b,b<d->aP[b]?=h b):
  bW fn d res ao .normal F p:=by refine⟨.inr a,aP,?_⟩;unfold pC at e;grind
def g.ix{b:aj P}{i}{aM}{res}(s:Y b i cR dd res aM)(aP)(k:t.guard=n)(e:t.op=.call {callee:=.value cP,args:=ag,argTypes:=dp})(v:gO (bF F cP)=h (i,cap))(j:k7 (ag.toList.map (bF F)++e2 cap)=gq aP cR)(o:g6 (c aP) cR=f)(q:dv aP p=h dd)(u:ep dd=f)(m:ep aM=f)(d:e8 aP=f)(r:ay (c aP) (c aM)=f)(x:fd D t.dst=f)(w:g b D be (.ae all bs::ar) .normal (fT t.dst (e9 (aP++gK (c p) (c aM-c aP)) res) F) (c_ aP aM p)):g b D be (.ae all (t::bs)::ar) .normal F p:=
 e'.call (λ_ _ _ _=>iY k) e v aP s j o q u m d (fc r) t.dst a (la x) w
def g.dk{d:aj P}{j}(u:bk d j cR dd res aM)(aP)(m:t.guard=n)(i:t.op=.call {callee:=.value cP,args:=ag,argTypes:=dp})(x:gO (bF F cP)=h (j,cap))(k:k7 (ag.toList.map (bF F)++e2 cap)=gq aP cR)(q:g6 (c aP) cR=f)(r:dv aP p=h dd)(v:ep dd=f)(o:∀b,ep (aM b)=f)(e:e8 aP=f)(s:∀b,ay (c aP) (c (aM b))=f)(y:fd D t.dst=f)(w:∀b,g d D be (.ae all bs::ar) .normal (fT t.dst (e9 (aP++gK (c p) (c (aM b)-c aP)) (res b)) F) (c_ aP (aM b) p)):g d D be (.ae all (t::bs)::ar) .normal F p:=
 e'.gT (λ_ _ _ _=>iY m) i x aP u k q r v o e (λb=>fc (s b)) t.dst a (la y) w
def g.aF{P:aI}{b:aj P}{D}{be}{ar}{F}{p}{all bs}{t}{cP}{ag}{dp}{a}{cap}{cR}{dd aM}{res}(w:Y b a cR dd res aM)(aP)(d:(t.guard,t.op,gO (bF F cP),k7 (ag.toList.map (bF F)++e2 cap),g6 (c aP) cR,dv aP p,ep dd,ep aM,e8 aP,ay (c aP) (c aM),fd D t.dst)=(n,.call {callee:=.value cP,args:=ag,argTypes:=dp},h (a,cap),gq aP cR,f,h dd,f,f,f,f,f))(s:g b D be (.ae all bs::ar) .normal (fT t.dst (e9 (aP++gK (c p) (c aM-c aP)) res) F) (c_ aP aM p)):g b D be (.ae all (t::bs)::ar) .normal F p:=by simp only[lG]at d;obtain⟨e,i,j,k,m,a,o,q,r,u,v⟩:=d;exact g.ix w aP e i j k m a o q r u v s
def g.a_{P:aI}{e:Type}{j:aj P}{D}{be}{ar}{F}{p}{all bs}{t}{cP}{ag}{dp}{i}{cap}{cR}{dd}{a:e->m an}{d:e->z}(x:bk j i cR dd d a)(aP)(o:(t.guard,t.op,gO (bF F cP),k7 (ag.toList.map (bF F)++e2 cap),g6 (c aP) cR,dv aP p,ep dd,e8 aP,fd D t.dst)=(n,.call {callee:=.value cP,args:=ag,argTypes:=dp},h (i,cap),gq aP cR,f,h dd,f,f,f))(k:∀b,(ep (a b),ay (c aP) (c (a b)))=(f,f))(y:∀b,g j D be (.ae all bs::ar) .normal (fT t.dst (e9 (aP++gK (c p) (c (a b)-c aP)) (d b)) F) (c_ aP (a b) p)):g j D be (.ae all (t::bs)::ar) .normal F p:=by simp only[lG]at o k;obtain⟨q,r,s,u,v,i,w,b,A⟩:=o;exact g.dk x aP q r s u v i w (λb=>(k b).1) b (λb=>(k b).2) A y
def lZ:m z->m z->Option (m Prop)
 |[],[]=>h []
 |d::a,e::b=>match km d e with
  |some g=>match lZ a b with
   |some i=>h (gB g i)
   |none=>n
  |none=>n
 |_,_=>n
def tg{p}{b}:∀{B:m Z}{e g:m z}{d:m Prop},lZ e g=h d->U d->b5 p b B e->b5 p b B g
 |[],[],[],_,_,_,_=>trivial
 |_::_,[],_,_,_,_,a=>a.elim
 |[],_::_,_,_,_,_,a=>a.elim
 |[],[],_::_,_,a,_,_=>by simp[lZ]at a
 |_::_,_::_,[],_,a,_,_=>by simp[lZ]at a
 |w::B,s::i,t::j,d,a,k,r=>by
  simp[lZ]at a;cases o:km s t with
  |none=>grind
  |some u=>
   cases q:lZ i j with
   |none=>grind
   |some v=>
    simp[o,q]at a;subst a;rw[U.Y]at k;exact⟨pr o k.1 r.1,tg q k.2 r.2⟩
def g.bV{d:aj P}{j}(x:bk d j cR dd res aM)(aP)(o:t.guard=n)(i:t.op=.call {callee:=.value cP,args:=ag,argTypes:=dp})(y:gO (bF F cP)=h (j,cap))(k:lZ (ag.toList.map (bF F)++e2 cap) (gq aP cR)=h ab)(m:U ab)(r:g6 (c aP) cR=f)(s:dv aP p=h dd)(z:ep dd=f)(q:∀b,ep (aM b)=f)(e:e8 aP=f)(v:∀b,ay (c aP) (c (aM b))=f)(A:fd D t.dst=f)(w:∀b,g d D be (.ae all bs::ar) .normal (fT t.dst (e9 (aP++gK (c p) (c (aM b)-c aP)) (res b)) F) (c_ aP (aM b) p)):g d D be (.ae all (t::bs)::ar) .normal F p:=
 e'.eV (λ_ _ _ _=>iY o) i y aP x (λC B u=>tg k m u) r s z q e (λb=>fc (v b)) t.dst a (la A) w
def abB{b:Act}{a}(d:a<b.tmps.size):(b.put (h a) aa).tmps.getD a K=aa:=by simp[Act.put,hp,uB d]
def dt.of_eq{T dI}(a:T=dI)(d:dt b dI):dt b T:=M
def x6{A}{a:Sem Next}(e:dt b (A.events P b.a #[]))(d:a=(do pure (.value (<-A)))):dt b (a.events P b.a #[]):=by grind[jj]
def Im{a}{fn}{ai:Array Z->Sem Z}(d:P.funcs[a]?=h fn)(m:(fn.name== "runtime.NumGoroutine")=l)(u:fn.body.isNone=f)(k:Extern.findNext fn=n)(e:Extern.find fn=h ai)(args)(j:dB P (ai args))(b)(T):
  (callFunc a args).events P b T=T.push ⟨.mark (.extern a),l,f⟩:=by have i:fn.name≠ "runtime.NumGoroutine":=M;have g:fn.body=n:=wE;simp[callFunc,d,i,g,k,e];rw[j b]
section
variable {r:aj P}
def ey(P:aI)(q:Nat)(o:ap)(p:bH)(g:m an)(r:ι->z)(b:ι->m an):Prop:=
 ∀d i,bY q g d p i->bb g d->∃e j a k,(ac i.eval o).run P d.a=.ok j a.a/\(j=.value k∨(j=.skip/\k=K))/\bx (b e) a k (r e)/\bb (b e) a/\cN g d (b e) a/\dt d ((ac i.eval o).events P d.a #[])
def g.cI(K:ι->z)(b:ι->m an)(O:t.guard=n)(M:fd D t.dst=f)(T:ey P D t F p K b)(U:∀k,g r D be (.ae all bs::ar) .normal (fT t.dst (K k) F) (b k)):g r D be (.ae all (t::bs)::ar) .normal F p:=by
 intro ai Q S j R B u N idx i a A;cases idx with
 |nil=>exact a.elim
 |cons ah idx=>
 refine rq i a.1 (iY O) λae v=>?_;have e:=j.rely v;have x:=S.rely v j;obtain⟨k,ad,o,ab,y,d,ag,I,J,aa⟩:=T ae Q x e;have w:=J.too1 e;refine⟨ad,o,ab,y,d,⟨⟨p,b k,e,I,J⟩,aa⟩,?_⟩;refine U k o _ ?_ I R B u N idx i a.2 λV q C s X W d E=>A V q C s X W d ((v.aV.trans w).trans E);cases Y:t.dst with
 |none=>exact x.mono w e.len
 |some Z=>exact(x.mono w e.len).put (la M Z Y) ag
def g.aO{o}(d:a0 P t (bF F) p o ao)(a:t.guard=n)(b:fd D t.dst=f)(e:g r D be (.ae all bs::ar) .normal (fT t.dst o F) ao):g r D be (.ae all (t::bs)::ar) .normal F p:=
 g.aq (.a1 (λ_ _ _ _=>iY a) d) b e
def oN(a:m ap)(d:bH)(g:ap):Bool:=match g.guard with
 |none=>f
 |some (e,b)=>match yo d a e with
  |some (h f)=>b
  |some (h l)=>!b
  |_=>l
def j1(a:oN all F t=f):∀d i b,bY D d i F b->aU t (yielded all.toArray b.tmps)=f:=by
 intro d i b g;unfold oN at a;split at a
 .grind [iY]
 rename_i k j e;split at a
 .rename_i s;simp only[aU,e,yp s g,a];rfl
 .rename_i s;simp only[aU,e,yp s g];grind
 grind
def g.iy{e}{aM}{res}(s:Y r e cR dd res aM)(aP)(j:oN all F t=f)(d:t.op=.call {callee:=.value cP,args:=ag,argTypes:=dp})(v:gO (bF F cP)=h (e,cap))(i:k7 (ag.toList.map (bF F)++e2 cap)=gq aP cR)(m:g6 (c aP) cR=f)(o:dv aP p=h dd)(u:ep dd=f)(k:ep aM=f)(b:e8 aP=f)(q:ay (c aP) (c aM)=f)(x:fd D t.dst=f)(w:g r D be (.ae all bs::ar) .normal (fT t.dst (e9 (aP++gK (c p) (c aM-c aP)) res) F) (c_ aP aM p)):g r D be (.ae all (t::bs)::ar) .normal F p:=
 e'.call (j1 j) d v aP s i m o u k b (fc q) t.dst a (la x) w
end
section
variable {r:aj P}
def g.fW{dE}(d:g r D be (.code s::ar) .normal dE ao){dr}(a:iS F dE=h ab)(x:U ab)(b:jm p ao=h dr)(j:U dr):g r D be (.code s::ar) .normal F p:=
 g.bf ao b j (b0.le d (eD a x))
def B5:m ij->m ij
 |.blk _::ar=>B5 ar
 |ar=>ar
def g.fz:∀{ar:m ij},g r D be (B5 ar) .normal F p->g r D be ar .normal F p
 |[],a=>a
 |.blk _::ar,a=>g.fz (ar:=ar) a
 |.code _::_,a=>a
 |.ae _ _::_,a=>a
def g.cj{u S2:Type}{iH}(id){v e}(q:iO id ar=h v)(J:Go.AM.B5 v=.code iH::e)(B:S2->Prop)(dy:S2->bH)(x:S2->m an)(k)(t:u->Prop)(b:u->bH)(d:u->m an)(C:u->Nat)(o){a}(I:iS F (b o)=h ab)(j:U ab)(E:jm p (d o)=h a)(y:U a)(A:c p=k)(w:t o)(round:(∀i {F:bH} {p:m an} {ab a:m Prop},B i->iS F (dy i)=h ab->U ab->jm p (x i)=h a->U a->g r D be v .normal F p) ->
   ∀o,t o->g r D (mf r D be ar t b d C k o) [.code s] .normal (b o) (d o))(after:∀i,B i->g r D be (.code iH::e) .normal (dy i) (x i)):g r D be (.code (.loop s)::ar) .normal F p:=
 g.aL k t b d C o I j E y A w (round λi _ _ _ _ K z j q y=>g.fz (by rw[J];exact(after i K).fW z j q y))
end
section
variable {r:aj P}
def iC(p:aj P)(s:Nat)(k:m z)(j:m an)(i:Bool)(e:ι->m an):Prop:=
 ∀a (B:m Z) (d:Nat),b5 j a B k->bb j a->(∃L,a.l[s]?=h L/\L.v=.func (.yield d) #[] #[]) ->
  ∃fn tmps assign body,(Instr.yield d B.toArray).run P a.a=.ok (.round d fn tmps assign body) a.a/\(Instr.yield d B.toArray).events P a.a #[]=#[⟨.obj d,l,l⟩] /\
  ∀(o:ak->a5->Prop) q g,(∀r b,bb (e r) b->dc j a (e r) b->cb p o (G (q.finish (.bool i)) g) b) ->
   cb p o (G (Frame.round d fn tmps assign body .normal) (q::g)) a
def y4{Q}{b}(g:Q.heap[d]?=h (.loop b)):(Instr.getLoop d).run P Q=.ok b Q/\∀a,(Instr.getLoop d).events P Q a=a.push ⟨.obj d,l,l⟩:=by
 have e:(getObj d).run P Q=.ok (.loop b) Q:=by simp[getObj,Sem.run,g]
 have i:∀a,(getObj d).events P Q a=a.push ⟨.obj d,l,l⟩:=λa=>by simp only[getObj,Sem.events,Sem.runT,g];rfl
 constructor
 .simp[Instr.getLoop,e]
 intro a;simp[Instr.getLoop,e,i]
def DW{Q}{e fU}(b:Q.heap[d]?=h (.loop e)):(setObj d (.loop fU)).run P Q=.ok () {Q with heap:=Q.heap.setIfInBounds d (.loop fU)}/\∀a,(setObj d (.loop fU)).events P Q a=a.push ⟨.obj d,f,l⟩:=by
 constructor
 .simp only[setObj,Sem.run,b]
 intro a;simp[setObj,Sem.events,Sem.runT,b];rfl
def ab2{Q}{a}{args}(j:Q.heap[d]?=h (.loop a))(b:args.size=a.params.size):
  (Instr.yield d args).run P Q=.ok (.round d a.fn ((a.params.zip args).foldl (λtmps (k,g)=>tmps.setIfInBounds k g) a.tmps) a.assign a.body) Q/\(Instr.yield d args).events P Q #[]=#[⟨.obj d,l,l⟩]:=by
 obtain⟨e,i⟩:=y4 (P:=P) j;constructor
 .simp[Instr.yield,e,b]
 simp[Instr.yield,e,i,b]
def abU{Q}{a}(i:Q.heap[d]?=h (.loop a))(b:a.state=.ready):
  (Instr.beginRound d).run P Q=.ok () {Q with heap:=Q.heap.setIfInBounds d (.loop {a with state:=.busy})}/\(Instr.beginRound d).events P Q #[]=#[⟨.obj d,l,l⟩,⟨.obj d,f,l⟩]:=by
 obtain⟨e,j⟩:=y4 (P:=P) i;obtain⟨g,k⟩:=DW (P:=P) (fU:={a with state:=.busy}) i;constructor
 .simp[Instr.beginRound,e,g,b]
 simp[Instr.beginRound,e,j,g,k,b]
def abX{Q}{a}(g:Q.heap[d]?=h (.loop a))(w):
  (Instr.endRound d w).run P Q=.ok (.bool w.isNone) {Q with heap:=Q.heap.setIfInBounds d (.loop {a with state:=if w.isNone then .ready else .done,pending:=w})}/\(Instr.endRound d w).events P Q #[]=#[⟨.obj d,l,l⟩,⟨.obj d,f,l⟩]:=by
 obtain⟨b,i⟩:=y4 (P:=P) g;obtain⟨e,j⟩:=DW (P:=P) (fU:={a with state:=if w.isNone then .ready else .done,pending:=w}) g;constructor
 .simp only[Instr.endRound,cH,b,e,c1,d8]
 simp only[Instr.endRound,aH,b,i,e,j,aJ,Sem.events_pure];rfl
def abW{Q}{a}(g:Q.heap[d]?=h (.loop a))(b:a.state≠.busy):
  (Instr.endLoop d).run P Q=.ok a.pending {Q with heap:=Q.heap.setIfInBounds d (.loop {a with state:=.exhausted})}/\(Instr.endLoop d).events P Q #[]=#[⟨.obj d,l,l⟩,⟨.obj d,f,l⟩]:=by
 obtain⟨e,i⟩:=y4 (P:=P) g;obtain⟨k,j⟩:=DW (P:=P) (fU:={a with state:=.exhausted}) g;have m:(a.state==.busy)=l:=by cases o:a.state<;>simp_all
 constructor
 .simp[Instr.endLoop,e,k,b]
 simp[Instr.endLoop,e,i,j,b]
section steps
variable {j:aK}{x:Act}{i:m Item}{Q:au}{eP:Bool}
def ab3(cw:t.op=.call {callee:=.value cP,args:=ag,argTypes:=dp})(s:x.eval cP=.func (.yield d) #[] #[]):
  (ac x.eval t).run P Q=(Instr.yield d (ag.toList.map x.eval).toArray).run P Q/\(ac x.eval t).events P Q #[]=(Instr.yield d (ag.toList.map x.eval).toArray).events P Q #[]:=by
 have I:ag.map x.eval=(ag.toList.map x.eval).toArray:=M;constructor
 .exact QZ
 exact QZ
def acd{bs}{fn}{tmps}{assign body}(a:aD[e]?=h t)(g:aU t (yielded aD x.tmps)=f)(m:j.kind≠.early)(k:(ac x.eval t).run P Q=.ok (.round d fn tmps assign body) bi):
  aq P eP (G (j.M x (.inRegion aD (e::bs)::i)) ah) Q=.go (G (Frame.round d fn tmps assign body .normal) (j.M x (.inRegion aD (e::bs)::i)::ah)) bi (Go.Conc.listed P j.fn x t Q):=by have b:(j.kind==CallKind.early)=l:=M;rw[y9 a g (λo p=>by grind[xW])];simp[stepG.apply,k,G,Frame.M,b,GStep.after,Go.Conc.listed]
def ab_{a}(m:j.roundOf=h d)(p:j.kind≠.early)(o:Q.heap[d]?=h (.loop a))(g:a.state=.ready):
  aq P eP (G (j.M x (.beginRound::i)) ah) Q=.go (G (j.M x i) ah) {Q with heap:=Q.heap.setIfInBounds d (.loop {a with state:=.busy})} (seen P j.fn #[⟨.obj d,l,l⟩,⟨.obj d,f,l⟩]):=by obtain⟨k,e⟩:=abU (P:=P) o g;have b:(j.kind==CallKind.early)=l:=M;simp[G,aq,stepG.exec,stepG.apply,Frame.M,m,b,k,e,GStep.after,Frame.finish]
def ace{b}{w}{a}{s}(C:j.roundOf=h d)(bU:j.kind=.normal)(e:Q.heap[d]?=h (.loop b))(g:(w=n/\a=[])∨(w=h .ret/\∃k1,a=.code .ret::k1)∨(∃id k1,w=h (.exit id)/\a=.code (.exit id)::k1/\exitTo id k1=n)):
  aq P eP (G (j.M x a) (s::ah)) Q=.go (G (s.finish (.bool w.isNone)) ah) {Q with heap:=Q.heap.setIfInBounds d (.loop {b with state:=if w.isNone then .ready else .done,pending:=w})} (seen P j.fn #[⟨.obj d,l,l⟩,⟨.obj d,f,l⟩]):=by
 obtain⟨I,ae⟩:=abX (P:=P) e w;rcases g with⟨rfl,rfl⟩|⟨rfl,k1,rfl⟩|⟨id,k1,rfl,rfl,A⟩
 .simp only[Option.isNone_none,dH]at I;exact OQ
 .simp only[Option.isNone_some,dh,j9]at I;exact OQ
 simp[Option.isNone_some,dh,j9]at I;simp[G,aq,stepG.exec,Frame.M,C,I,ae,GStep.after,doReturn,bU,A]
def ab'{a}(k:Q.heap[d]?=h (.loop a))(g:a.state≠.busy):
  aq P eP (G (j.M x (.endRangeFunc d::i)) ah) Q=.go (G (j.M x ((a.pending.map Item.code).toList++i)) ah) {Q with heap:=Q.heap.setIfInBounds d (.loop {a with state:=.exhausted})} (seen P j.fn #[⟨.obj d,l,l⟩,⟨.obj d,f,l⟩]):=by obtain⟨b,e⟩:=abW (P:=P) k g;simp[G,aq,stepG.exec,Frame.M,b,e,GStep.after]
def abY{fn}{tmps}{params}{assign body}:
  (Instr.enterLoop fn tmps params assign body n).run P Q=.ok (Q.heap.size+1,[{target:=.collected Q.heap.size,args:=#[]}]) {Q with heap:=(Q.heap.push (.deferred (h []))).push (.loop {state:=.ready,pending:=n,fn,tmps,params,assign,body,defers:=Q.heap.size})} /\
  (Instr.enterLoop fn tmps params assign body n).events P Q #[]=#[]:=by
 have d:∀b Q,(newObj b).run P Q=.ok Q.heap.size {Q with heap:=Q.heap.push b}:=λb Q=>by simp[newObj,Sem.run]
 have e:∀b Q a,(newObj b).events P Q a=a:=λb Q a=>by simp[newObj,Sem.events,Sem.runT]
 constructor
 .simp[Instr.enterLoop,d];rfl
 simp[Instr.enterLoop,d,e]
def acc{b}{ab}{assign body}{a}{fn}{s}(w:j.roundOf=n)(q:j.kind≠.early)(r:P.funcs[a]?=h fn)(z:(fn.name== "runtime.NumGoroutine")=l)(y:fn.body.isNone=l)(t:x.eval b=.func (.func a) #[] s.toArray):
  aq P eP (G (j.M x (.code (.rangeFunc b ab assign body)::i)) ah) Q =
   .go (G (Frame.enter P a (Value.func (.yield (Q.heap.size+1)) #[] #[]::s).toArray .normal) (j.M {x with defers:={target:=.collected Q.heap.size,args:=#[]}::x.defers} (.inRangeFunc (Q.heap.size+1)::i)::ah))
    {Q with heap:=(Q.heap.push (.deferred (h []))).push (.loop {state:=.ready,pending:=n,fn:=j.fn,tmps:=x.tmps,params:=ab,assign,body,defers:=Q.heap.size})} #[]:=by
 obtain⟨v,u⟩:=abY (P:=P) (Q:=Q) (fn:=j.fn) (tmps:=x.tmps) (params:=ab) (assign:=assign) (body:=body);have p:(j.kind==CallKind.early)=l:=M;have o:fn.name≠ "runtime.NumGoroutine":=M;have m:fn.body≠n:=M;have e:∀d k g,({fn:=j.fn,tmps:=x.tmps,todo:=k,defers:=d,mode:=g,kind:=j.kind,roundOf:=j.roundOf}:aK).eval b=.func (.func a) #[] s.toArray:=by intro d k g;rw[<-t];cases b<;>rfl
 simp[G,aq,stepG.exec,Frame.M,w]at e⊢;simp[v,u,GStep.after,stepG.apply,resolve,e,Deferred.ofValue,invoke,callFunc,r,o,m,p,seen];rfl
end steps
end
section
variable {r:aj P}
def bb.fL(j:bb p b){g:Nat}{a}{m}(aE:p[g]?=h (.loop D a m))(k:∃L,b.l[g]?=h L/\L.v=.func (.yield d) #[] #[]):
  ∃tmps fn e,b.l[g]?=h ⟨.func (.yield d) #[] #[],[d]⟩/\b.a.heap[d]?=h (.loop {m with tmps:=tmps,fn:=fn,defers:=e})/\tmps.size=D/\(∀o,bx p b (tmps.getD o K) (look a o))/\(∀s,b.u d s=n):=by obtain⟨L,i,q⟩:=k;obtain⟨r,tmps,fn,e,x,u,w,t,v⟩:=j.box g _ L aE i;grind
def bb.gC(j:bb p b){k}{i}{v fU}{d'}(aE:p[k]?=h (.loop D i v)){tmps}{fn e}(x:b.l[k]?=h ⟨.func (.yield d) #[] #[],[d]⟩)(C:b.a.heap[d]?=h (.loop {v with tmps:=tmps,fn:=fn,defers:=e}))(N:tmps.size=D)(B:∀o,bx p b (tmps.getD o K) (look i o))(I:∀u,b.u d u=n)(w:d'=.x∨d'=.loop D i fU):
  bb (p.set k d') {b with a:={b.a with heap:=b.a.heap.setIfInBounds d (.loop {fU with tmps:=tmps,fn:=fn,defers:=e})}}/\cN p b (p.set k d') {b with a:={b.a with heap:=b.a.heap.setIfInBounds d (.loop {fU with tmps:=tmps,fn:=fn,defers:=e})}}:=by
 have S:d<b.a.heap.size:=j.lt _ (b9 x) d E;have s:∀g,g≠d->(b.a.heap.setIfInBounds d (.loop {fU with tmps:=tmps,fn:=fn,defers:=e}))[g]?=b.a.heap[g]?:=λg m=>by grind
 have R:b.l.set k ⟨.func (.yield d) #[] #[],[d]⟩=b.l:=mY;have Q:k<c p:=(cO.1 aE).1;have z:fE (.loop D i v) ⟨.func (.yield d) #[] #[],[d]⟩ d' ⟨.func (.yield d) #[] #[],[d]⟩:=by rcases w with rfl|rfl<;>rfl
 have q:fk p b (p.set k d') {b with a:={b.a with heap:=b.a.heap.setIfInBounds d (.loop {fU with tmps:=tmps,fn:=fn,defers:=e})}}:=by
  refine⟨λ_ _ _ r=>r,λF y L U A=>?_⟩;by_cases O:k=F
  .grind
  exact⟨y,L,by grind,A,.refl _ _⟩
 have:=j.b7 (cd:=b.u) (bi:={b.a with heap:=b.a.heap.setIfInBounds d (.loop {fU with tmps:=tmps,fn:=fn,defers:=e})}) (d':=d') (cn:=⟨.func (.yield d) #[] #[],[d]⟩) aE x z E (λg _ m=>s g M) (λ_ _ _ _=>rfl) (λ_ _ _ r=>r)
  (λg u J t=>by
   have T:g≠d:=M;rw[<-j.mem g u J t];simp[aL]
   grind) (λg m=>by grind) a a a (by
   rcases w with rfl|rfl
   .trivial
   .refine⟨d,tmps,fn,e,a,M,N,λo=>?_,I⟩
    .have:=(B o).mono q j.len
     grind)
 grind
def g.yield{d:ι->m an}{e}{bg}{res}(aN:iC r e bg p res d)(H:t.guard=n)(ak:fd D t.dst=f)(M:t.op=.call {callee:=.value cP,args:=ag,argTypes:=dp}){N0}{ik}{a'}(Z:p[e]?=h (.loop N0 ik a'))(ae:bF F cP=.n (.aq (.aR e)))(aJ:ag.toList.map (bF F)=bg)(i:∀R,g r D be (.ae all bs::ar) .normal (fT t.dst (ax (.bool res)) F) (d R)):g r D be (.ae all (t::bs)::ar) .normal F p:=by
 intro aI x au u j w C Y idx s b K;cases idx with
 |nil=>exact b.elim
 |cons R idx=>
 refine .next a λq aG=>?_;have W:=r.bN aG;have o:=u.rely W;have T:=au.rely W u;have X:=eL T cP;rw[ae]at X;obtain⟨_,L,V,O,_⟩:=(show cx _ q _ (.aR e)from X)
 obtain⟨S,tmps,fn,aq,ah,av,aw,az,aA⟩:=o.box e _ L Z V;subst ah;have aB:b5 p q (ag.toList.map x.eval) bg:=by grind[m6,eL]
 obtain⟨aH,aK,assign,body,ab,ao,ad⟩:=aN q (ag.toList.map x.eval) S aB o ⟨_,V,rfl⟩;obtain⟨G,ai⟩:=ab3 (P:=P) (Q:=q.a) (x:=x) M O;refine⟨_,q,_,acd b.1 (iY H) s (G.trans ab),⟨⟨p,p,o,o,.refl _ _⟩,dt.seen ?_⟩,ad Y _ _ λN y v k=>?_⟩
 .rw[ai,ao];exact .aq (mw (L:=⟨.func (.yield S) #[] #[],[S]⟩) (b9 V) E)
 have I:=qs (j:=j) (x:=x) (i:=w) all.toArray R idx (.bool res);rw[b.1]at I;simp[n4]at I;rw[I];refine i N y _ ?_ v j w C Y idx s b.2 λaD A U B aE aj J z=>K aD A U B aE aj J ((W.aV.trans k).trans z);cases aa:t.dst with
 |none=>exact T.mono k o.len
 |some aF=>exact(T.mono k o.len).put (la ak aF aa) (show bx (d N) y (.bool res) (ax (.bool res))from Rd.bool)
def rr:m Tmp->m z->bH->bH
 |g::d,e::b,a=>rr d b ((g,e)::a)
 |_,_,a=>a
def yV(b:Nat):m Tmp->Bool
 |[]=>f
 |d::a=>match ay (d+1) b with|true=>yV b a|false=>l
def Gs{D}{p}{b}:∀{e:m Tmp}{a:m z}{B:m Z}{F:bH}{x:Act},bY D p b F x->b5 p b B a->yV D e=f->bY D p b (rr e a F) {x with tmps:=(e.zip B).foldl (λtmps (j,k)=>tmps.setIfInBounds j k) x.tmps}
 |[],a,B,F,x,d,_,_=>by simpa[rr]using d
 |_::_,[],[],F,x,d,_,_=>by simpa[rr]using d
 |_::_,[],_::_,F,x,d,g,_=>g.elim
 |_::_,_::_,[],F,x,d,g,_=>g.elim
 |j::q,I::a,k::B,F,x,d,g,i=>by
  simp[yV]at i;split at i
  .rename_i o;have:=Gs (d.put (I:=j) (fc o) g.1) g.2 i;simpa[rr,Act.put]using this
  grind
def Z8:Exit->Option (Option Code)
 |.normal=>h n
 |.ret=>h (h .ret)
 |.exit id=>h (h (.exit id))
 |_=>n
def iC.intro{a4:Type}{i D}{e}{b}{bg}{p}{J:a4->m an}{w}(aS:p[i]?=h (.loop D e b))(bj:b.state=.ready)(aM:c bg=b.params.size)(X:yV D b.params.toList=f)(bo:b0 r D b.assign (λy H g=>y=.normal/\g[i]?=h (.loop D e b)/\b0 r D b.body (λy bb t=>Z8 y=h w/\t[i]?=h (.loop D e {b with state:=.busy}) /\
   ∃bq,ra (t.set i (.loop D e {b with state:=if w.isNone then .ready else .done,pending:=w})) (J bq)) H (g.set i (.loop D e {b with state:=.busy}))) (rr b.params.toList bg e) p):iC r i bg p w.isNone J:=by
 intro A B d aa W aL;obtain⟨tmps,fn,bm,U,aF,aG,aH,bp⟩:=W.fL aS aL;have ba:c B=b.params.size:=by grind[b5.get]
 obtain⟨a2,a3⟩:=ab2 (P:=P) (args:=B.toArray) aF M;refine⟨_,_,_,_,a2,a3,λaj ak k aI=>?_⟩;let E:aK:={fn:=fn,tmps:=#[],todo:=[],defers:=[],mode:=.run,kind:=.normal,roundOf:=h d}
 have q:E.kind≠.early:=by simp[E]
 have aJ:bY D p A (rr b.params.toList bg e) {tmps:=(b.params.zip B.toArray).foldl (λtmps (a1,x)=>tmps.setIfInBounds a1 x) tmps,defers:=[]}:=by
  have:=Gs (x:={tmps:=tmps,defers:=[]}) (F:=e) ⟨aG,⟨[],v⟩,aH⟩ aa X;have y:(b.params.zip B.toArray).foldl (λtmps (ae:Tmp×Z)=>tmps.setIfInBounds ae.1 ae.2) tmps=(b.params.toList.zip B).foldl (λtmps (ae:Tmp×Z)=>tmps.setIfInBounds ae.1 ae.2) tmps:=by rw[<-Array.foldl_toList];simp
  grind
 show cb r aj (G (E.M {tmps:=(b.params.zip B.toArray).foldl (λtmps (a1,x)=>tmps.setIfInBounds a1 x) tmps,defers:=[]} [.code b.assign,.beginRound,.code b.body]) (ak::k)) A;refine bo A _ aJ W E [.beginRound,.code b.body] (ak::k) aj q ?_;rintro y H g bs aw ⟨rfl,aR,br⟩ az a7 O;refine .next a λaZ Y=>?_;have ai:=r.bN Y;have Q:=a7.rely ai;have aA:=az.rely ai a7;have bl:∃L,aZ.l[i]?=h L/\L.v=.func (.yield d) #[] #[]:=by obtain⟨au,u,k1,z,av⟩:=(O.trans ai.aV).box i _ _ aS U;rw[aR]at k1;cases k1;exact⟨u,z,av⟩
 obtain⟨ar,a_,a8,S,T,aB,aD,aE⟩:=Q.fL aR bl;have ah:=Q.gC (fU:={b with state:=.busy}) aR S T aB aD aE (.inr rfl);have N:∀{A:a5} {p:m an} {L:Loc},A.l[i]?=h L->L.al=[d]->dt A #[⟨.obj d,l,l⟩,⟨.obj d,f,l⟩]:=λ{A p L} V q=>
  .fj (mw (b9 V) M) (mw (b9 V) M)
 refine⟨_,_,_,ab_ (d:=d) a q T bj,⟨⟨_,_,Q,ah.1,ah.2⟩,dt.seen (N (p:=g) S a)⟩,?_⟩;have a6:=ah.2.too1 Q;have bh:=ah.1;refine br _ aw (aA.mono a6 Q.len) bh E [] (ak::k) aj q ?_;rintro y bc bf a0 ax ⟨s,aQ,aP,bt⟩ bn bu aN;have stA:=((O.trans ai.aV).trans a6).trans aN;have fin:∀I j,cU a0 j->((w=n/\I=[])∨(w=h .ret/\∃k1,I=.code .ret::k1)∨(∃id k1,w=h (.exit id)/\I=.code (.exit id)::k1/\exitTo id k1=n)) ->
   ∃R C K,aq P r.b5 (G (E.M ax I) (ak::k)) j.a=.go R C.a K/\kz j C K/\cb r aj R C:=by
  intro I j o bk;have ao:=bu.rely o;have bd:∃L,j.l[i]?=h L/\L.v=.func (.yield d) #[] #[]:=by obtain⟨au,u,k1,z,av⟩:=(stA.trans o.aV).box i _ _ aS U;rw[aQ]at k1;cases k1;exact⟨u,z,av⟩
  obtain⟨bw,a',a9,ab,ad,aT,aU,aV⟩:=ao.fL aQ bd;have ag:=ao.gC (fU:={b with state:=if w.isNone then .ready else .done,pending:=w}) aQ ab ad aT aU aV (.inr rfl);obtain⟨aW,aX,_⟩:=bt _ ag.1;exact⟨_,_,_,ace (d:=d) a a ad bk,⟨⟨_,_,ao,ag.1,ag.2⟩,dt.seen (N (p:=bf) ab a)⟩,aI aP _ aW (((stA.trans o.aV).trans (ag.2.too1 ao)).trans (aX.too1 ag.1))⟩
 cases y with
 |normal=>
  cases s;exact .next a λj o=>fin [] j (r.bN o) (.inl ⟨a,a⟩)
 |ret=>
  cases s;intro pre;exact .next a λj o=>fin _ j (r.bN o) (.inr (.inl ⟨a,pre,a⟩))
 |exit id=>
  cases s;intro pre aO;refine .next a λj o=>fin _ j (r.bN o) (.inr (.inr ⟨id,_,a,a,?_⟩));have:=aO [];simpa[exitTo]using this
 |_=>cases s
end
def db(q:aj P)(o:Nat)(v:Code)(aN:fs)(u:bH)(k:m an):Prop:=
 ∀j r,bY o k j u r->bb k j->∀i t g (p:ak->a5->Prop),i.kind≠.early->i.roundOf=n ->
  (∀s d a b e,aN s d a->bY o a b d e->bb a b->dc k j a b->kI q p i t g s e b)->cb q p (G (i.M r (.code v::t)) g) j
section
variable {r:aj P}{aN:fs}
def b0.bA(m:b0 r D s aN F p):db r D s aN F p:=λq g k d i o a e b _ j=>m q g k d i o a e b j
theorem db.seq{o X}(S:db r D o (v' (db r D X aN) aN) F p):db r D (.seq o X) aN F p:=by
 intro V Q T e B K g A j b i;refine .ctl e a (λ_=>pE) λU d=>?_;refine S U Q (T.rely d e) (e.rely d) B (.code X::K) g A j b ?_;intro t N O x q M J I z;have C:=d.aV.trans z;cases t with
 |normal=>exact M x q J I B K g A j b λt R m y s w u v k=>i t R m y s w u v (C.trans k)
 |_=>exact kI.cons (λ_ _=>rfl) E (i _ _ _ _ _ M J I C)
theorem db.block{id}(x:db r D s (uL id aN) F p):db r D (.block id s) aN F p:=by
 intro B t y e u i j q k g lT;refine .ctl e a (λ_=>y7) λz d=>?_;refine x z t (y.rely d e) (e.rely d) u (.inBlock id::i) j q k g ?_;intro ai dE ao m fF bc C ae o;have I:=d.aV.trans o;cases ai with
 |normal=>
  exact OS
 |exit b=>
  simp[uL]at bc;split at bc
  .exact QA
  .rename_i w
   intro pre vg;have:=lT (.exit b) dE ao m fF bc C ae I (pre++[.inBlock id]) (λgb=>by
    rw[mj,vg];have:(id==b)=l:=M
    simp[exitTo,this])
   grind
 |ret=>exact lT _ _ _ _ _ bc C ae I
 |panic v=>exact lT _ _ _ _ _ bc C ae I
 |goto A=>exact lT _ _ _ _ _ bc C ae I
 |outgrown=>exact lT _ _ _ _ _ bc C ae I
def bb.jP(a:bb p b){t:Nat->Prop}(i:∀e,t e->e<b.a.heap.size/\∀L∈b.l,e∉L.al):bb p {b with own:=t}:=
 ⟨a.mem,a.len,λk d L aE g=>er.cb (p:=p) (b:=b) (ao:=p) (az:={b with own:=t}) ⟨λ_ _ _ a=>a,λ_ d L a j=>⟨d,L,a,j,.refl _ _⟩⟩ a.len (λ_ _=>⟨rfl,λ_=>rfl⟩) (a.box k d L aE g),a.a3,a.lt,i⟩
def bb.bK(e:bb p b){a'}{t:Nat->Prop}(y:b.own a')(s:∀j,t j->b.own j)(E:¬t a')(B:∀C,b.u a' C=n)(w:b.a.heap[a']?=h (.deferred (h []))):
  bb (p++[.bn]) {b with l:=b.l++[⟨.int .i64 a',[a']⟩],own:=t}/\eW b {b with l:=b.l++[⟨.int .i64 a',[a']⟩],own:=t}:=by
 obtain⟨J,I⟩:=e.own a' y;have r:fk p b (p++[.bn]) {b with l:=b.l++[⟨.int .i64 a',[a']⟩],own:=t}:=by refine⟨λ_ _ _ e=>e,λm o L aE d=>⟨o,L,M,?_,.refl _ _⟩⟩;grind
 refine⟨⟨e.mem,by simp[e.len],?_,?_,?_,?_⟩,⟨a,λ_ _ _ e=>e,λ_ _ _=>rfl,e.mem,?_⟩⟩
 .intro m o L aE d;rcases rG d with v|⟨g,rfl⟩
  .have g:m<c p:=by rw[<-e.len];grind
   rw[kA g]at aE;exact(e.box m o L aE v).cb r e.len λ_ _=>⟨a,λ_=>rfl⟩
  rw[g,e.len,hq (bC _)]at aE;simp at aE;subst aE;exact⟨a',a,w,B⟩
 .intro m u L q d i j cT k;rcases rG d with k1|⟨z,rfl⟩<;>rcases rG i with x|⟨A,rfl⟩
  .exact e.a3 m u L q k1 x j cT k
  .grind
  .grind
  grind
 .intro L d j cT;simp[gl,gY]at d;rcases d with d|rfl
  .exact e.lt L d j cT
  grind
 .intro j cT;obtain⟨F,D⟩:=e.own j (s j cT);grind
 grind
def yS:Option Code->Option Exit
 |none=>h .normal
 |some .ret=>h .ret
 |some (.exit id)=>h (.exit id)
 |_=>n
def db.rangeFunc{bN}{ab}{assign body}{bG}{o'}{ao:ι->m an}{fU:ι->Loop}(aH:∀b w,bY D p b F w->bb p b->∃aX:m Z,w.eval bN=.func (.func bG) #[] aX.toArray/\b5 p b aX o')(aI:bk r bG (.n (.aq (.aR (c p)))::o') (p++[.loop D F {state:=.ready,pending:=n,fn:=0,tmps:=#[],params:=ab,assign:=assign,body:=body,defers:=0}]) res ao)(bm:∀u,(ao u)[c p]?=h (.loop D F (fU u))/\(fU u).state≠.busy)(i:∀u,∃ak,yS (fU u).pending=h ak/\aN ak F ((ao u).set (c p) .x++[.bn])):db r D (.rangeFunc bN ab assign body) aN F p:=by
 intro b w bd aK j A ah bJ d aR bj;obtain⟨⟨fn,aJ,W,b3⟩,b4⟩:=aI;refine .next a λe aP=>?_;have X:=r.bN aP;have x:=aK.rely X;have ai:=bd.rely X aK;obtain⟨aX,bs,N⟩:=aH e w ai x;generalize aQ:e.a.heap.size=a';have bS:=λeP=>acc (P:=P) (eP:=eP) (i:=A) (ah:=ah) (ab:=ab) (assign:=assign) (body:=body) (j:=j) (Q:=e.a) aR d aJ W b3 bs;rw[aQ]at bS;let w1:au:={e.a with heap:=e.a.heap.push (.deferred (h []))}
 let aU:Loop:={state:=.ready,pending:=n,fn:=j.fn,tmps:=w.tmps,params:=ab,assign:=assign,body:=body,defers:=a'}
 let w2:au:={e.a with heap:=(e.a.heap.push (.deferred (h []))).push (.loop aU)}
 have bQ:w2.heap.size=a'+2:=M;have br:w1.heap.size=a'+1:=M;have aL:∀j,j<e.a.heap.size->w1.heap[j]?=e.a.heap[j]?:=λj d=>by grind
 have V:∀j,j<w1.heap.size->w2.heap[j]?=w1.heap[j]?:=λj d=>by grind
 have bH:∀j,j<e.a.heap.size->w2.heap[j]?=e.a.heap[j]?:=λj d=>by grind
 have bt:w2.heap[a']?=h (.deferred (h [])):=M;have Y:w2.heap[a'+1]?=h (.loop aU):=M;have bw:∀j,e.a.heap.size<=j->∀t,e.u j t=n:=λj d t=>by
  cases q:e.u j t with
  |none=>rfl
  |some ae=>have:=x.block q;omega
 let k:Loc:=⟨.func (.yield (a'+1)) #[] #[],[a'+1]⟩
 let I:Loc:=⟨.int .i64 a',[a']⟩
 let C:Loop:={state:=.ready,pending:=n,fn:=0,tmps:=#[],params:=ab,assign:=assign,body:=body,defers:=0}
 obtain⟨bf,bg⟩:=x.cY (cd:=e.u) (bi:=w2) y bH (λ_ _ _=>rfl) (λj d t ae q=>by grind) rfl rfl rfl;have O:fk p e (p++[.loop D F C]) ⟨e.l++[k],e.u,w2,e.own⟩:=by refine⟨λ_ _ _ bh=>bh,λbR bX L aE g=>⟨bX,L,M,?_,.refl _ _⟩⟩;grind
 obtain⟨S,bW⟩:=bf.b0 (bX:=.loop D F C) (L:=k) bg rfl x ⟨a'+1,w.tmps,j.fn,a',rfl,Y,ai.size,λb2=>(ai.aH b2).mono O x.len,λt=>bw _ y t⟩ (λj d=>by grind)
 have aD:=S.jP (t:=λj=>e.own j∨j=a') (by
  rintro j (d|rfl)
  .exact S.own j d
  .refine⟨by grind,λL g=>?_⟩;simp[gl,gY]at g;rcases g with g|rfl
   .intro ar;have:=x.lt L g j ar;omega
   grind)
 have d1:=x.ec;obtain⟨a1,a2⟩:=d1.cY (cd:=e.u) (bi:=w1) y aL (λ_ _ _=>rfl) (λj d t ae q=>by grind) rfl rfl rfl;obtain⟨aq,a3⟩:=a1.b0 (bX:=.x) (L:=I) a2 rfl d1 v (λj d=>by grind);obtain⟨a4,a6⟩:=aq.cY (cd:=e.u) (bi:=w2) M V (λ_ _ _=>rfl) (λj d t ae q=>by grind) rfl rfl rfl;obtain⟨a8,a_⟩:=a4.b0 (bX:=.x) (L:=k) a6 rfl aq v (λj d=>by grind);have aF:eW ⟨e.l++[I]++[k],e.u,w2,e.own⟩ ⟨e.l++[k],e.u,w2,λj=>e.own j∨j=a'⟩:=by
  refine⟨a,λ_ _ _ bh=>bh,λ_ _ _=>rfl,S.mem,?_⟩;rintro j ((d|rfl)|⟨L,g,d⟩)
  .grind
  .exact .inr ⟨I,by simp,by grind⟩
  grind
 refine⟨_,⟨e.l++[I]++[k],e.u,w2,e.own⟩,_,bS r.b5,⟨⟨_,_,d1,a8,a3.trans a_⟩,.nil⟩,.aU aF (b4 _ (Value.func (.yield (a'+1)) #[] #[]::aX) ?_ aD bJ _ λu bO ae b0 bT bq bM aW=>?_)⟩
 .refine⟨⟨λbX B=>?_,k,?_,a,a⟩,?_⟩
  .rw[hq (bC _)]at B;simp at B;subst B;rfl
  .show (e.l++[k])[c p]?=_;rw[<-x.len,hq (bC _)];simp
  exact N.mono (p:=p) (b:=e) (ao:=p++[.loop D F C]) (az:=⟨e.l++[k],e.u,w2,λj=>e.own j∨j=a'⟩) ⟨O.mem,O.box⟩ x.len
 have T:(j.M {w with defers:={target:=.collected a',args:=#[]}::w.defers} (.inRangeFunc (a'+1)::A)).finish ae=j.M {w with defers:={target:=.collected a',args:=#[]}::w.defers} (.endRangeFunc (a'+1)::A):=cQ;refine uG (ah:=ah) (s:=j.M {w with defers:={target:=.collected a',args:=#[]}::w.defers} (.inRangeFunc (a'+1)::A)) bM bT λb1 bL=>?_;rw[T];refine .next a λK bV=>?_;have bK:=r.bN bV;have aZ:=(bM.rely bL).rely bK;have bI:=(aW.trans bL.aV).trans bK.aV;obtain⟨bF,aM⟩:=bm u;have aG:∃L,K.l[c p]?=h L/\L.v=.func (.yield (a'+1)) #[] #[]:=by obtain⟨d',ag,k1,aS,aT⟩:=bI.box (c p) (.loop D F C) k (show(p++[an.loop D F C])[c p]?=_ from wT) (by show(e.l++[k])[c p]?=_;rw[<-x.len,hq (bC _)];simp);rw[bF]at k1;cases k1;exact⟨ag,aS,aT⟩
 obtain⟨H,av,aj,aa,aV,bx,bz,bB⟩:=aZ.fL bF aG;obtain⟨J,ad⟩:=aZ.gC (fU:={fU u with state:=.exhausted}) (d':=.x) bF aa aV bx bz bB (.inl rfl);refine⟨_,_,_,ab' aV aM,⟨⟨_,_,aZ,J,ad⟩,dt.seen (.fj (mw (b9 aa) E) (mw (b9 aa) E))⟩,?_⟩;have z:=bI.trans (ad.too1 aZ);generalize bP:({K with a:={K.a with heap:=K.a.heap.setIfInBounds (a'+1) (.loop {{fU u with state:=.exhausted}with tmps:=H,fn:=av,defers:=aj})}}:a5)=o at J ad z;have aB:o.own a':=by rw[z.own];grind
 have aA:o.a.heap[a']?=h (.deferred (h [])):=by rw[z.a6 a' (.inr a)];omega
 have ax:∀t,o.u a' t=n:=λt=>by rw[z.bE a' M (λL g=>(aD.own a' (.inr a)).2 L g)];grind
 obtain⟨bE,t2⟩:=J.bK (a':=a') (t:=e.own) aB (λj d=>by rw[z.own];grind) (λar=>by have:=(x.own a' ar).1;omega) ax aA;refine .aU t2 ?_;have a0:dc p e ((ao u).set (c p) .x++[.bn]) {o with l:=o.l++[⟨.int .i64 a',[a']⟩],own:=e.own}:=by
  refine⟨M,λj d=>?_,λj t ae q=>z.mem j t ae q,λj d bZ t=>?_,λL g j d=>?_,λbR bX L aE g=>?_,z.os,z.tape,z.output,a⟩
  .show o.a.heap[j]?=_;rw[z.a6 j (.inl d)];exact bH j (x.own j d).1
  .show o.u j t=_;rw[z.bE j M (λL g=>?_)];grind
  .simp only[gl,gY]at g;rcases g with g|rfl
   .rcases z.bT L g j d with aw|⟨bU,aw,dq⟩
    .grind
    grind
   grind
  have bo:=(cO.1 aE).1;have bn:=(cO.1 g).1;obtain⟨d',ag,k1,aS,aT⟩:=z.box bR bX L M M;grind
 have bc:bY D ((ao u).set (c p) .x++[.bn]) {o with l:=o.l++[⟨.int .i64 a',[a']⟩],own:=e.own} F {w with defers:={target:=.collected a',args:=#[]}::w.defers}:=by
  have q:=ai.mono a0 x.len;obtain⟨bu,R⟩:=ai.defers;refine⟨q.size,⟨c ((ao u).set (c p) .x)::bu,⟨⟨M,⟨.int .i64 a',[a']⟩,a',?_,a,a⟩,λar=>?_,R.mono a0.ext⟩⟩,q.aH⟩
  .show (o.l++_)[_]?=_;rw[<-J.len,hq (bC _)];simp
  have aw:=R.e6 _ ar;grind
 obtain⟨ak,B,bp⟩:=i u;have bD:=bj ak F _ _ _ bp bc bE (X.aV.trans a0);revert B;show yS (fU u).pending=h ak->cb r bJ (G (j.M _ (((fU u).pending.map Item.code).toList++A)) ah) _;intro B;cases aO:(fU u).pending with
 |none=>rw[aO]at B;cases B;exact bD
 |some s=>
  rw[aO]at B;cases s<;>simp[yS,reduceCtorEq,eU]at B
  .subst B;exact bD [] bl
  subst B;exact bD A
def bY.callee{q}{i}(d:look F q=ax (.fn (.func i) [] cap)):∀g a,bY D p g F a->bb p g->∃e:m Z,a.eval (.tmp q)=.func (.func i) #[] e.toArray/\b5 p g e (e2 cap):=by
 intro g a o _;have b:=o.aH q;rw[d]at b;have b:=b7 b;show ∃e:m Z,a.tmps.getD q K=.func (.func i) #[] e.toArray/\_;generalize a.tmps.getD q K=y at b;cases b with
 |fn t k d j r s u v w x=>
  grind[qi]
def bk.e5{i}{fn}{args}{ao:ι->m an}(v:P.funcs[i]?=h fn)(t:(fn.name== "runtime.NumGoroutine")=l)(o:fn.body=h s)(C:ay args.length fn.ntmps=f)(D:ky args p->db r fn.ntmps s (λA w g=>∃u,bW fn p.length (res u) (ao u) A w g) (h2 0 args) p):bk r i args p res ao:=by refine⟨⟨fn,v,t,by grind⟩,λe B b a=>?_⟩;exact(bk.hJ v t o (fc C) λI y i E z F j x q d k=>D ⟨e,B,b,a⟩ I y i E z F j x q d k).2 e B b a
def RD(fn:Func)(e:z)(a:m an):fs:=λj k g=>
 (j=.ret∨j=.normal)/\g=a/\jQ a=f/\∃b i d,oH k fn.results.toList=h b/\pq b=h i/\km i e=h d/\U d
def bk.bP{j}{fn}{args}{ao:ι->m an}(X:P.funcs[j]?=h fn)(au:(fn.name== "runtime.NumGoroutine")=l)(I:fn.body=h s)(V:ay args.length fn.ntmps=f)(aq:b0 r fn.ntmps s (λai ae g=>∃W,RD fn (res W) (ao W) ai ae g) (h2 0 args) p):bk r j args p res ao:=by
 refine⟨⟨fn,X,au,by grind⟩,λaz B M J U i F=>?_⟩;obtain⟨ar,O⟩:=b5.get M;let t:aK:={fn:=j,tmps:=#[],todo:=[],defers:=[],mode:=.run,kind:=.normal,roundOf:=n}
 have ah:Frame.enter P j B.toArray .normal=t.M {tmps:=B.toArray++Array.replicate (fn.ntmps-B.toArray.size) K,defers:=[]} [.code s]:=by simp[Frame.enter,Frame.M,X,I,t]
 rw[ah];have V:=fc V;refine aq az {tmps:=B.toArray++Array.replicate (fn.ntmps-B.toArray.size) K,defers:=[]} ⟨by grind,⟨[],v⟩,λq=>?_⟩ J t [] i U E ?_
 .rw[yz];simp[gZ,dH,sy];have:=O q;rcases dY q (c B) with aH|aG
  .exact N'
  rw[wV y];trivial
 rintro ai ag g S e ⟨N,R,rfl,aw,u,aj,ax,C,D,ad,aa⟩ ab o T;have fin:∀b d,cU S d->b.fn=j->b.tmps=e.tmps->b.defers=e.defers->b.mode=.returning->b.kind=.normal->cb r U (G b i) d:=by
  intro b d a w x ak z A;have Y:=ab.rely a o;obtain⟨aB,aE,H,aD⟩:=LQ (P:=P) Y C D;obtain⟨k,Q⟩:=Y.defers;have aF:e.defers=[]:=by
   cases k with
   |nil=>cases aA:e.defers with
    |nil=>rfl
    |cons aj u=>rw[aA]at Q;exact Q.elim
   |cons av k=>exact absurd rfl (vw aw _ (b9 (Q.e6 av E)))
  refine F N b aB _ ⟨w,z,by grind,A,fn,by grind,λZ _=>?_⟩ (pr ad aa H) (o.rely a) (T.trans a.aV);rw[x];exact⟨aE Z,λai R=>by rw[aD Z #[]]at R;grind⟩
 rcases R with rfl|rfl
 .intro pre;exact .ctl o rfl (λ_=>D5 rfl) λd a=>fin _ d a rfl rfl (h1 _) rfl rfl
 exact .ctl o rfl (λ_=>D3 rfl) λd a=>fin _ d a rfl rfl (h1 _) rfl rfl
end
structure ut{P:aI}(r:aj P)(D:Nat)(aD:Array ap)(F:bH)(p:m an)(o:Nat->z)(s:Nat->bH)(idx:Nat->Option Nat)(last:Nat):Prop where
 cO:∀e t,aD[e]?=h t->∀ai∈t.after,eN ai=f->ai.on<e
 e4:∀e t I,aD[e]?=h t->t.dst=h I->idx I=h e/\I<D
 dP:∀I e,idx I=h e->∃t,aD[e]?=h t/\t.dst=h I
 aq:∀e t,aD[e]?=h t->e≠last->aV r D aD.toList t (s e) p (o e) p
 e2:∀e t,aD[e]?=h t->e≠last->∀q p b aa,bx p b aa (match idx q with|some w=>(if ∃ai∈t.after,eN ai=f/\ai.on=w then o w else .any)|none=>look F q)->bx p b aa (look (s e) q)
 hr:∀t,aD[last]?=h t->∀w,w<aD.size->w≠last->∃ai∈t.after,eN ai=f/\ai.on=w
 ee:last<aD.size
section
variable {r:aj P}{o:Nat->z}{s:Nat->bH}{idx:Nat->Option Nat}{last:Nat}
theorem J'{a q}(j:∀b,b<aD.size->L.getD b f=f):Region.linearise.go .any aD a q L []=[]:=by
 cases a with
 |zero=>exact Db q L
 |succ k=>
  have d:aS .any aD L=[]:=by
   cases d:aS .any aD L with
   |nil=>rfl
   |cons e g=>
    have i:e∈aS .any aD L:=M;grind[ps]
  grind[vq]
def ut.eQ(u:ut r D aD F p o s idx last){W:ak->a5->Prop}{z:aK}{I}(B:z.kind≠.early){cF}(aa:∀d j,j.tmps.size=D->(∀b,bx p d (j.tmps.getD b K) (match idx b with|some m=>if m=last then .any else o m|none=>look F b))->j.defers=[]->bb p d->dc p cF p d->cb r W (G (z.M j (.inRegion aD [last]::I)) ah) d):
  ∀E L,L.size=aD.size->c (L.toList.filter (λz=>!z))<=E->¬L.getD last l=f ->
   (∀e x,aD[e]?=h x->L.getD e l=f->∀g∈x.after,eN g=f->L.getD g.on l=f) ->
   ∀d j,ma D p d (gx F o idx L) j->j.defers=[]->bb p d->dc p cF p d ->
   ∀b,cb r W (G (z.M j (.inRegion aD (Region.linearise.go .any aD E b L [])::I)) ah) d:=by
 intro E;induction E with
 |zero=>
  intro L ai ab an aF d j v S w Q b;exfalso;have T:L[last]'(by have:=u.ee;omega)∈L.toList:=by simp
  have az:=u.ee;cases B:L[last]'y with
  |true=>exact an (by simp[hp,iD (by omega:last<L.size),B])
  |false=>
   have:L[last]'y∈L.toList.filter (λz=>!z):=kD.2 ⟨T,by grind⟩;grind
 |succ E aj=>
  intro L ai ab an aF d j v S w Q b;rw[vq];cases aw:(aS .any aD L)[b % c (aS .any aD L)]? with
  |none=>
   exfalso;have ag:aS .any aD L=[]:=by
    cases ag:aS .any aD L with
    |nil=>rfl
    |cons aO aM=>
     grind[Nat.mod_lt]
   have ax:∀e,e<aD.size->L.getD e l=f:=by
    intro e;induction e using Nat.strongRecOn with
    |_ e au=>
     intro C;cases B:L.getD e l with
     |true=>rfl
     |false=>
      have T:e∈aS .any aD L:=ps.2 ⟨aD[e],iD C,by
       grind,λg X V=>by
       have:=u.cO e _ (iD C) g X V
       grind⟩
      grind
   exact an (ax last u.ee)
  |some e=>
   have C:=b9 aw;obtain⟨x,q,ar,ae⟩:=ps.1 C;have az:e<aD.size:=(jb.1 q).1;have H:¬L.getD e l=f:=M;by_cases ao:e=last
   .subst ao;have O:Region.linearise.go .any aD E (b / c (aS .any aD L)) (L.setIfInBounds e f) []=[]:=by
     refine J' λm ad=>?_;have aq:(L.setIfInBounds e f).getD m l=f:=by
      rw[mz y];by_cases g:m=e
      .grind
      obtain⟨Z,X,V,rfl⟩:=u.hr x q m ad g;grind
     grind
    simp[O];refine aa d j v.size (λb=>?_) S w Q;have:=v.aH b;unfold gx at this;cases i:idx b with
    |none=>grind
    |some m=>
     simp only[i]at this⊢;obtain⟨vy,bz,_⟩:=u.dP _ _ i;by_cases g:m=e
     .rw[br g];trivial
     rw[bm g];obtain⟨Z,X,V,rfl⟩:=u.hr x q m (jb.1 bz).1 g;grind
   have aI:(L.setIfInBounds e f).size=aD.size:=M;have aH:c ((L.setIfInBounds e f).toList.filter (λz=>!z))<=E:=by have A:L.toList[e]?=h l:=Q0;grind[xK]
   have av:∀m U,aD[m]?=h U->(L.setIfInBounds e f).getD m l=f->∀g∈U.after,eN g=f->(L.setIfInBounds e f).getD g.on l=f:=wD;have aJ:¬(L.setIfInBounds e f).getD last l=f:=wD
   have aB:bY D p d (s e) j:=v.fi λb p d R N=>u.e2 e x q ao b p d R (by
    unfold gx at N;cases i:idx b with
    |none=>grind
    |some m=>
     simp only[i]at N⊢;split
     .grind
     .trivial)
   have aL:∀t R,dc p d p t->bx p t R (o e)->ma D p t (gx F o idx (L.setIfInBounds e f)) (j.put x.dst R):=by
    intro t R J N;cases S:x.dst with
    |none=>
     refine⟨v.size,v.defers.imp λ_ A=>A.mono J.ext,λb=>?_⟩;have k:=(v.aH b).mono J.ext w.len;simp only[Act.put];unfold gx at k⊢;cases i:idx b with
     |none=>grind
     |some m=>
      exact OP
    |some Y=>
     obtain⟨aG,aA⟩:=u.e4 e x Y q S;refine⟨by simp[Act.put,v.size],v.defers.imp λ_ A=>A.mono J.ext,λb=>?_⟩;simp only[Act.put];by_cases g:Y=b
     .subst g;have aN:Y<j.tmps.size:=by rw[v.size];exact aA
      simp only[hp,uB aN,iq];unfold gx;simp only[aG];rw[br ((mz y).2 (.inl a))];exact N
     have k:=(v.aH b).mono J.ext w.len;simp only[hp]at k⊢;rw[sG g];unfold gx at k⊢;cases i:idx b with
     |none=>grind
     |some m=>
      exact OP
   have:=u.aq e x q ao d j aB w z I ah W e (Region.linearise.go .any aD E (b / c (aS .any aD L)) (L.setIfInBounds e f) []) B M;simp only[w6]at this;exact this λR t N aE J=>aj _ aI aH aJ av t _ (aL _ _ J N) (by cases x.dst<;>exact S) aE (Q.trans J) _
theorem ut.region(B:ut r D aD F p o s idx last)(M:P.follows Departure.mixedOrders=f){A:ak->a5->Prop}{u:aK}{j}(v:u.kind≠.early){cF}{wQ}{id}(b4:bY D p cF F wQ)(J:wQ.defers=[])(y:bb p cF)(N:∀q k,k.tmps.size=D->(∀d,bx p q (k.tmps.getD d K) (match idx d with|some w=>if w=last then .any else o w|none=>look F d))->k.defers=[]->bb p q->dc p cF p q->cb r A (G (u.M k (.inRegion aD [last]::j)) ah) q):
  cb r A (G (u.M wQ (.code (.region id aD f)::j)) ah) cF:=by
 refine .next a λb i=>?_;have i:=r.bN i;have g:=y.rely i;have C:=b4.rely i y;have x:cN p b p {b with a:={b.a with drawn:=b.a.drawn+1}}:=cN.same rfl rfl rfl rfl;have z:bb p {b with a:={b.a with drawn:=b.a.drawn+1}}:=g.same rfl;have I:=i.aV.trans (x.too1 g);refine⟨_,{b with a:={b.a with drawn:=b.a.drawn+1}},#[],D4,⟨⟨p,p,g,z,x⟩,.nil⟩,?_⟩;simp[Region.schedule,M,Bool.true_or,dH];refine B.eQ v (cF:=cF) N aD.size _ E E wx Fa _ wQ ?_ J z I _;have m:=C.mono (x.too1 g) g.len;refine⟨m.size,m.defers,λd=>?_⟩;unfold gx;cases O:idx d with
 |none=>exact m.aH d
 |some w=>
  simp only;rw[bm]
  .exact m.aH d
  exact wx
end
def dx(r:aj P)(x:Nat)(a:m ap)(u:ap)(w:bH)(k:m an)(y:ι->z)(e:ι->m an):Prop:=
 ∀j o,bY x k j w o->bb k j->∀(p:aK) t g (q:ak->a5->Prop) s b,p.kind≠.early->a.toArray[s]?=h u ->
  (∀i v d,bx (e i) d v (y i)->bb (e i) d->dc k j (e i) d->cb r q (G (p.M (o.put u.dst v) (.inRegion a.toArray b::t)) g) d)->cb r q (G (p.M o (.inRegion a.toArray (s::b)::t)) g) j
def pO:m ap->Nat->(Nat->z)->m (Option Nat×z)
 |[],_,_=>[]
 |d::e,a,b=>(d.dst,b a)::pO e (a+1) b
def EI{g:Nat->z}:∀{e:m ap}{b a:Nat},(pO e b g)[a]?=(e[a]?).map λd=>(d.dst,g (b+a))
 |[],b,a=>by simp[pO]
 |d::i,b,0=>by simp[pO]
 |d::i,b,a+1=>by simp[pO,n2];rw[EI,show b+1+a=b+(a+1) by omega]
def dy(a:m ap)(b:bH)(g:Nat->z)(d:Nat):bH:=fL (λe=>ed e (c6 (a.getD d eo).after.toList)) 0 (pO a 0 g) (mN a b)
def nl(a:m ap)(b:bH)(d:Nat->z):bH:=fL (λ_=>f) 0 (pO a 0 d) (mN a b)
def od(a:Nat):m ap->Bool
 |[]=>f
 |b::d=>match fd a b.dst with|true=>od a d|false=>l
def Ic{D}:∀{e:m ap},od D e=f->∀(a:Nat)b,e[a]?=h b->fd D b.dst=f
 |[],_,a,b,d=>by grind
 |j::k,d,a,b,g=>by
  simp[od]at d;split at d
  .rename_i i;cases a with
   |zero=>grind
   |succ a=>exact Ic d a b M
  grind
def n5:m ap->Nat->Bool
 |[],_=>f
 |b::d,a=>match tl a (c6 b.after.toList)with|true=>n5 d (a+1)|false=>l
def Gm:∀{j:m ap}{i:Nat},n5 j i=f->∀(a:Nat)d,j[a]?=h d->∀g∈c6 d.after.toList,g<i+a
 |[],_,_,a,d,e=>by grind
 |p::q,i,e,a,d,b=>by
  simp[n5]at e;split at e
  .rename_i k;cases a with
   |zero=>simp at b;subst b;exact Dd k
   |succ a=>intro g o;have:=Gm e a d M g o;omega
  grind
def w'(pre:Nat->Bool):m Nat->Bool
 |[]=>l
 |a::b=>match pre a with|true=>w' pre b|false=>f
theorem Gd{pre:Nat->Bool}:∀{d:m Nat},w' pre d=f->∃b∈d,pre b=l
 |[],a=>by cases a
 |b::g,a=>by
  simp[w']at a;split at a
  .obtain⟨s,e,j⟩:=Gd a;grind
  grind
def n_(pre:Nat->Bool)(b:Nat):m ap->Nat->Bool
 |[],_=>f
 |e::d,a=>match pre a with
  |true=>n_ pre b d (a+1)
  |false=>match af a b with
   |true=>n_ pre b d (a+1)
   |false=>match w' pre (c6 e.after.toList)with|true=>n_ pre b d (a+1)|false=>l
theorem HB{pre:Nat->Bool}{A}:∀{i:m ap}{d:Nat},n_ pre A i d=f->∀(a:Nat)e,i[a]?=h e->pre (d+a)=l->d+a≠A->∃p∈c6 e.after.toList,pre p=l
 |[],_,_,a,e,g=>by grind
 |r::q,d,g,a,e,b=>by
  intro j k;simp[n_]at g;cases a with
  |zero=>
   simp at b;subst b;simp[j']at j k;grind[Nat.eq_of_beq_eq_true,Gd]
  |succ a=>
   have o:n_ pre A q (d+1)=f:=M;exact HB o a e M M y
section
variable {r:aj P}{idx:Nat->Option Nat}
def Yh{i:Nat->z}{k}(r:∀a p b g,bx p b g (match idx a with|some j=>(if ∃d∈t.after,eN d=f/\d.on=j then i j else .any)|none=>look F a)->bx p b g (look (dy aD.toList F i e) a))(q:ma D p b (gx F i idx L) k)(s:∀d∈t.after,eN d=f->L.getD d.on l=f):bY D p b (dy aD.toList F i e) k:=q.fi λa p b g m=>r a p b g (by
 unfold gx at m;cases o:idx a with
 |none=>grind
 |some j=>
  simp only[o]at m⊢;split
  .grind
  .trivial)
def aet{s q:Nat->z}{d}{o}(u:∀g,t.dst=h g->idx g=h e/\g<D)(N:∀g m,idx g=h m->∃t,aD[m]?=h t/\t.dst=h g)(A:aD[e]?=h t)(M:e<L.size)(O:∀m,L.getD m l=f->q m=s m)(w:c b.l=c p)(j:dc p b d az)(k:ma D p b (gx F s idx L) o)(J:bx d az aa (q e)):ma D d az (gx F q idx (L.setIfInBounds e f)) (o.put t.dst aa):=by
 have old:∀i,idx i≠h e->bx d az (o.tmps.getD i K) (gx F q idx (L.setIfInBounds e f) i):=by intro i Q;have x:=(k.aH i).mono j.ext w;unfold gx at x⊢;grind[mz]
 cases I:t.dst with
 |none=>
  refine⟨k.size,k.defers.imp λ_ r=>r.mono j.ext,λi=>?_⟩;refine old i λy=>?_;grind
 |some g=>
  obtain⟨B,E⟩:=u g I;refine⟨by simp[Act.put,k.size],k.defers.imp λ_ r=>r.mono j.ext,λi=>?_⟩;simp[Act.put];by_cases v:g=i
  .subst v;have C:g<o.tmps.size:=by rw[k.size];exact E
   simp[hp,uB C,iq];unfold gx;simp only[B];rw[br ((mz M).2 (.inl a))];exact J
  have:=old i (λy=>by grind);simp[hp]at this⊢;grind
def RV{Sd:∀a e,aD[a]?=h e->∀b∈e.after,eN b=f->b.on<a}(p:L.size=aD.size)(m:aS .any aD L=[]):∀a,a<aD.size->L.getD a l=f:=by
 intro a;induction a using Nat.strongRecOn with
 |_ a g=>
  intro d;cases o:L.getD a l with
  |true=>rfl
  |false=>
   have j:a∈aS .any aD L:=ps.2 ⟨aD[a],iD d,by grind,λb k i=>by grind⟩;grind
def aaJ{q}(a:(aS .any aD L)[q % c (aS .any aD L)]?=n):aS .any aD L=[]:=by
 cases d:aS .any aD L with
 |nil=>rfl
 |cons e b=>
  grind[Nat.mod_lt]
theorem RY(i:L.size=aD.size)(j:c (L.toList.filter (λb=>!b))<=0):∀a,a<aD.size->L.getD a l=f:=by
 intro a g;have d:L[a]'y∈L.toList:=E;cases e:L[a]'y with
 |true=>simp[hp,iD (by omega:a<L.size),e]
 |false=>
  have:L[a]'y∈L.toList.filter (λb=>!b):=kD.2 ⟨d,by grind⟩;grind
end
def dm(b:Nat)(z:Nat->Bool):Nat->Bool:=λa=>match af a b with|true=>f|false=>z a
section
variable {r:aj P}{C:Type}{o:C->Nat->z}{idx:Nat->Option Nat}{bq:C->(Nat->Bool)->m an}{fa:C->(Nat->Bool)->Prop}{s:Nat}
def ki(L:Array Bool):Nat->Bool:=λa=>L.getD a l
def S4(a:e<L.size):ki (L.setIfInBounds e f)=dm e (ki L):=by funext w;have b:=mz (L:=L) (e:=e) (w:=w) a;simp[ki,dm];grind[Nat.eq_of_beq_eq_true,Nat.beq_refl]
def SG{s}(j:L.size=k)(i:∀e,s<=e->¬L.getD e l=f):k-s<=c (L.toList.filter (λa=>!a)):=by
 have m:(L.toList.drop s).filter (λa=>!a)=L.toList.drop s:=by rw[so];intro a g;obtain⟨d,b,rfl⟩:=hG g;have:=i (s+d) y;simp[su,m9]at b;simp[hp,iD (by omega:s+d<L.size),iq]at this;grind
 grind[List.drop_sublist]
theorem nW.iH(all)(s):nW all (List.range' s (c all-s)) (all.drop s):=by
 have key:∀a k,(∀w t,a[w]?=h t->all[k+w]?=h t)->nW all (List.range' k (c a)) a:=by
  intro a;induction a with
  |nil=>intro k _;trivial
  |cons t b x=>
   exact Qa
 have:=key (all.drop s) s λw t u=>by grind
 grind
structure uq{P:aI}(r:aj P)(D:Nat)(aD:Array ap)(F:bH){C:Type}(o:C->Nat->z)(bq:C->(Nat->Bool)->m an)(fa:C->(Nat->Bool)->Prop)(idx:Nat->Option Nat)(s:Nat):Prop where
 cO:∀e t,aD[e]?=h t->∀ai∈t.after,eN ai=f->ai.on<e
 e4:∀e t I,aD[e]?=h t->t.dst=h I->idx I=h e/\I<D
 dP:∀I e,idx I=h e->∃t,aD[e]?=h t/\t.dst=h I
 aq:∀κ (z:Nat->Bool) e t,fa κ z->aD[e]?=h t->e<s->z e=l->(∀ai∈t.after,eN ai=f->z ai.on=f)->(∀w KF,aD[w]?=h KF->z w=f->∀ai∈KF.after,eN ai=f->z ai.on=f)->dx r D aD.toList t (dy aD.toList F (o κ) e) (bq κ z) (λbc:{Rq:C // (∀w,z w=f->o Rq w=o κ w)/\fa Rq (dm e z)}=>o bc.1 e) (λbc=>bq bc.1 (dm e z))
 e2:∀(o:Nat->z) e t,aD[e]?=h t->∀q p b aa,bx p b aa (match idx q with|some w=>(if ∃ai∈t.after,eN ai=f/\ai.on=w then o w else .any)|none=>look F q)->bx p b aa (look (dy aD.toList F o e) q)
 fin:∀(o:Nat->z) q p b aa,bx p b aa (match idx q with|some w=>o w|none=>look F q)->bx p b aa (look (nl aD.toList F o) q)
 gQ:∀e t,aD[e]?=h t->s<=e->∀L:Array Bool,(∀e t,aD[e]?=h t->L.getD e l=f->∀ai∈t.after,eN ai=f->L.getD ai.on l=f)->(∀ai∈t.after,eN ai=f->L.getD ai.on l=f)->∀i,i<e->L.getD i l=f
 gd:s<=aD.size
 h8:∀κ (z:Nat->Bool),fa κ z->(∀e,e<s->z e=f)->∀e,s<=e->e<aD.size->o κ e=.any
def Jv(b:L.size=k)(a:e<k):L.getD e f=l↔¬L.getD e l=f:=M
theorem uq.seq(u:uq r D aD F o bq fa idx s):∀m a(L:Array Bool)z,L.size=aD.size->s<=a->a<=aD.size->aD.size-a<=m->(∀q,q<aD.size->(L.getD q l=f↔q<a)) ->
  Region.linearise.go .any aD m z L []=List.range' a (aD.size-a):=by
 intro m;induction m with
 |zero=>
  grind[Db]
 |succ m V=>
  intro a L z C W X Y B;by_cases O:a=aD.size
  .grind [J']
  .rw[vq];have w:a<aD.size:=y;have S:∀b k,aD[b]?=h k->L.getD b l=f->∀j∈k.after,eN j=f->L.getD j.on l=f:=λb k d i j x g=>by have p:=(jb.1 d).1;have e:=(B b p).1 i;have E:=u.cO b k d j x g;grind
   have T:∀b,b∈aS .any aD L->b=a:=λb i=>by
    obtain⟨k,d,v,U⟩:=ps.1 i;have p:=(jb.1 d).1;have K:¬b<a:=λQ=>(Jv C p).1 v ((B b p).2 Q);rcases dY a b with e|e
    .have:=u.gQ b k d y L S U a e;grind
    omega
   have R:a∈aS .any aD L:=ps.2 ⟨aD[a],iD w,(Jv C w).2 (λI=>by grind),λj x g=>by
    have:=u.cO a _ (iD w) j x g
    grind⟩
   have N:0<c (aS .any aD L):=List.length_pos_of_mem R;have A:=p6 z N;rw[bI A];have t:=T _ (wY A);simp[t];rw[V (a+1) _ _ M y y y (λq J=>by grind[mz])];rw[show aD.size-a=(aD.size-(a+1))+1 by omega,List.range'_succ]
def uq.eQ(p:uq r D aD F o bq fa idx s){aN:ak->a5->Prop}{v:aK}{x}(Y:v.kind≠.early){dO}{cF}(X:∀b z d i,fa b z->(∀e,e<s->z e=f)->bY D (bq b z) d (nl aD.toList F (o b)) i->bb (bq b z) d->dc dO cF (bq b z) d->cb r aN (G (v.M i (.inRegion aD (List.range' s (aD.size-s))::x)) ah) d):
  ∀u b L,fa b (ki L)->L.size=aD.size->c (L.toList.filter (λv=>!v))<=u->(∀q,s<=q->¬L.getD q l=f) ->
   (∀e A,aD[e]?=h A->L.getD e l=f->∀I∈A.after,eN I=f->L.getD I.on l=f) ->
   ∀d i,ma D (bq b (ki L)) d (gx F (o b) idx L) i->bb (bq b (ki L)) d->dc dO cF (bq b (ki L)) d ->
   ∀m,cb r aN (G (v.M i (.inRegion aD (Region.linearise.go .any aD u m L [])::x)) ah) d:=by
 have fin:∀b L d i u m,fa b (ki L)->L.size=aD.size->c (L.toList.filter (λv=>!v))<=u->(∀q,s<=q->¬L.getD q l=f)->(∀e,e<s->L.getD e l=f)->ma D (bq b (ki L)) d (gx F (o b) idx L) i->bb (bq b (ki L)) d->dc dO cF (bq b (ki L)) d->cb r aN (G (v.M i (.inRegion aD (Region.linearise.go .any aD u m L [])::x)) ah) d:=by
  intro b L d i u m B N R Q ai E j t;have W:=p.gd;rw[p.seq u s L m N (bC _) W (by have aE:=SG (k:=aD.size) (s:=s) N Q;omega) (λq J=>⟨λaj=>by grind,λaj=>ai q aj⟩)]
  exact X b _ d i B ai (E.fi λm ax d ar H=>p.fin (o b) m ax d ar (by
   unfold gx at H;cases w:idx m with
   |none=>grind
   |some q=>
    simp only[w]at H⊢;obtain⟨A,g,_⟩:=p.dP _ _ w;rcases dY q s with C|C
    .grind
    .rw[p.h8 b _ B ai q C (jb.1 g).1];trivial)) j t
 intro u;induction u with
 |zero=>
  intro b L B N R Q V d i E j t m;have W:=p.gd;grind[RY]
 |succ u ab=>
  intro b L B N R Q V d i E j t m;have W:=p.gd;cases ad:(aS .any aD L)[m % c (aS .any aD L)]? with
  |none=>exact fin b L d i _ m B N R Q (λe w=>RV (Sd:=p.cO) N (aaJ ad) e y) E j t
  |some e=>
   have w:=b9 ad;obtain⟨A,g,ao,ag⟩:=ps.1 w;have aq:e<aD.size:=(jb.1 g).1;rcases dY e s with O|O
   rotate_left
   .exact fin b L d i _ m B N R Q (λq J=>p.gQ e A g O L V ag q y) E j t
   rw[vq,ad];have av:¬L.getD e l=f:=M;have aG:c ((L.setIfInBounds e f).toList.filter (λv=>!v))<=u:=by
    have C:L.toList[e]?=h l:=by rw[F1,iD (by omega:e<L.size)];simpa[hp,iD (by omega:e<L.size)]using av
    grind[xK]
   have au:∀S K,aD[S]?=h K->(L.setIfInBounds e f).getD S l=f->∀I∈K.after,eN I=f->(L.setIfInBounds e f).getD I.on l=f:=wD;have a:bY D (bq b (ki L)) d (dy aD.toList F (o b) e) i:=Yh (p.e2 (o b) e A g) E ag;have:=p.aq b (ki L) e A B g O (by unfold ki;grind) ag V d i a j v x ah aN e (Region.linearise.go .any aD u (m / c (aS .any aD L)) (L.setIfInBounds e f) []) Y M;simp only[w6]at this;refine this λaF ar ae H U T=>?_;obtain⟨aA,az,an⟩:=aF;have aw:=S4 (L:=L) (e:=e) y;simp only at H U T;rw[<-aw]at H U T an;exact ab aA _ an M aG (λq J=>by grind[mz]) au ae _ (aet (λaB Z=>p.e4 e A aB g Z) p.dP g y (λS aa=>az S aa) j.len T E H) U (t.trans T) _
def b0.reg(aG:P.follows Departure.mixedOrders=f)(x:Nat)(u:C->Nat->z)(Q:C->(Nat->Bool)->m an)(g:C->(Nat->Bool)->Prop)(au:C)(aV:g au λ_=>l)(aE:Q au (λ_=>l)=p)(ao:kO all=f)(a6:n5 all 0=f)(a7:od D all=f)(a_:x<=c all)(R:∀e,x<=e->e<c all->∀L:Nat->Prop,(∀e,e<c all->L e->∀j∈c6 (all.getD e eo).after.toList,L j)->(∀j∈c6 (all.getD e eo).after.toList,L j)->∀K,K<e->L K)(B:∀k (z:Nat->Bool),g k z->(∀e,e<x->z e=f)->∀e,x<=e->e<c all->u k e=.any)(ag:∀k (z:Nat->Bool) e t,g k z->all[e]?=h t->e<x->z e=l->(∀j∈c6 t.after.toList,z j=f)->(∀i ae,all[i]?=h ae->z i=f->∀j∈c6 ae.after.toList,z j=f)->dx r D all t (dy all F (u k) e) (Q k z) (λaM:{aR:C // (∀i,z i=f->u aR i=u k i)/\g aR (dm e z)}=>u aM.1 e) (λaM=>Q aM.1 (dm e z))){aN:fs}(aF:∀k z,g k z->(∀e,e<x->z e=f)->e' r D all (all.drop x) (aN .normal) (nl all F (u k)) (Q k z))(id:Nat):
  b0 r D (.region id all.toArray f) aN F p:=by
 have S:∀e:Nat,all.toArray[e]?=all[e]?:=λe=>by simp
 let idx:Nat->Option Nat:=λq=>(aC (c all)).find? (λe=>decide ((all.getD e eo).dst=h q));have bc:∀q i,idx q=h i->∃t,all[i]?=h t/\t.dst=h q:=M;have a2:∀e t I,all[e]?=h t->t.dst=h I->idx I=h e:=by
  intro e t I cw v;have bp:e<c all:=(cO.1 cw).1;cases aJ:idx I with
  |none=>
   have:=List.find?_eq_none.1 aJ e M;grind
  |some i=>
   grind[Dr]
 have bd:∀q,jO q all=f↔∃i,idx q=h i:=by grind[CP,vf]
 have G:∀e t,all[e]?=h t->all.getD e eo=t:=λe t bf=>by grind
 have v:uq r D all.toArray F u Q g idx x:=by
  refine⟨?_,?_,?_,?_,?_,?_,λe t cw V L aW aX K aH=>?_,by grind,λk z ar aw e o s=>B k z ar aw e o M⟩
  .intro e t cw j ad y;rw[S]at cw;have:=Gm a6 e t cw j.on (l2.2 ⟨j,by grind,y,rfl⟩);omega
  .intro e t I cw v;rw[S]at cw;exact⟨a2 e t I cw v,la (Ic a7 e t cw) I v⟩
  .grind
  .intro k z e t ar cw ab T aI aZ;rw[S]at cw;exact ag k z e t ar cw ab T (λj ad=>by grind[l2]) λi t J aU j ad=>by grind[l2]
  .intro u e t cw q p b aa ak;rw[S]at cw;show bx p b aa (look (dy all F u e) q);unfold dy;rw[G e t cw];rcases vs (A:=λi=>ed i (c6 t.after.toList)) (F:=mN all F) (q:=q) (d:=pO all 0 u) (e:=0)with⟨i,X,o,s,w⟩|w
   .rw[w];rw[EI]at o;cases J:all[i]? with
    |none=>grind
    |some aL=>
     simp[J,lF,eU,lG,cV]at o;rw[a2 i aL q J o.1]at ak;simp only at ak;rw[br]at ak
     .grind
     simp[cV]at s;obtain⟨j,aS,aT,x⟩:=l2.1 (qJ s);grind
   rw[w,tk];split
   .trivial
   grind
  .intro u q p b aa ak;show bx p b aa (look (nl all F u) q);unfold nl;rcases vs (A:=λ_=>f) (F:=mN all F) (q:=q) (d:=pO all 0 u) (e:=0)with⟨i,X,o,s,w⟩|w
   .rw[w];rw[EI]at o;grind
   rw[w,tk];split
   .trivial
   grind
  rw[S]at cw;refine R e V (cO.1 cw).1 (λK=>L.getD K l=f) (λba a0 a' j ad=>?_) (λj ad=>?_) K aH
  .grind [l2]
  grind[l2]
 intro b aS a8 Y aT aK aA av y U;refine .next a λO aj=>?_;have aj:=r.bN aj;have ai:=Y.rely aj;have H:=a8.rely aj Y;have N:cN p O p {O with a:={O.a with drawn:=O.a.drawn+1}}:=cN.same rfl rfl rfl rfl;have Z:bb p {O with a:={O.a with drawn:=O.a.drawn+1}}:=ai.same rfl;have a3:=aj.aV.trans (N.too1 ai);refine⟨_,{O with a:={O.a with drawn:=O.a.drawn+1}},#[],D4,⟨⟨p,p,ai,Z,N⟩,.nil⟩,?_⟩;simp only[Region.schedule,aG,Bool.true_or,dH];have W:ki (Array.replicate all.toArray.size l)=λ_=>l:=by funext e;simp[ki,hp,w0];split<;>simp
 refine v.eQ y (dO:=p) (cF:=b) (λk z aP ax ar aw aB s ah=>?_) all.toArray.size au _ M E E ?_ ?_ _ aS ?_ M M _
 .refine aF k z ar aw aP ax aB s aT aK aA av _ y ?_ λa5 a4 aQ az aO aD w a9=>U .normal _ _ aQ az aO aD w (ah.trans a9);grind[nW.iH]
 .intro e _ bp;simp[hp,w0]at bp;split at bp<;>simp at bp
 .exact Fa
 rw[W,aE];have aq:=H.mono (N.too1 ai) ai.len;refine⟨aq.size,aq.defers,λq=>?_⟩;unfold gx;cases a1:idx q with
 |none=>exact aq.aH q
 |some i=>
  simp only;rw[bm]
  .exact aq.aH q
  exact wx
def dx.to{q:Type}{s:ι->z}{b:ι->m an}{u:q->z}{o:q->m an}(A:dx r D all t F p s b)(E:∀d,∃e,s d=u e/\b d=o e):dx r D all t F p u o:=by intro O w y j x e g v C a i k B;refine A O w y j x e g v C a i k λd S Q K M N=>?_;obtain⟨R,I,J⟩:=E d;grind
def aV.tocD{d:Type}{X}{A:d->z}{y:d->m an}(J:aV r D all t F p X ao)(q:d)(e:X=A q)(g:ao=y q):dx r D all t F p A y:=by subst e g;exactλM C I k E s b B K a j o i=>J M C I k E s b B K a j o λN x u v w=>i q N x u v w
end
section
variable {r:aj P}
theorem dx.a1{C:ι->z}{d:ι->m an}(Q:t.guard=n)(M:∀g i,bb p g->(∀E,bx p g (i E) (bF F E))->∃(e:ι)(b:a5)(k:Z),(ac i t).run P g.a=.ok (.value k) b.a/\bx (d e) b k (C e)/\bb (d e) b/\cN p g (d e) b/\dt g ((ac i t).events P g.a #[])):dx r D all t F p C d:=by intro g I K j S U J R T y w x v;refine rq w x (iY Q) λO q=>?_;have o:=j.rely q;obtain⟨e,b,k,s,u,B,A,N⟩:=M O I.eval o (eL (K.rely q j));exact⟨_,b,k,s,.inl a,⟨⟨p,d e,o,B,A⟩,N⟩,v e k b u B (q.aV.trans (A.too1 o))⟩
def dx.dg{o}(u:aV r D all t F p o ao):dx r D all t F p (λ_:Unit=>o) (λ_=>ao):=
 λx m s g q w b k v a e i d=>u x m s g q w b k v a e i λy j=>d () y j
def aV.aO{o}(b:a0 P t (bF F) p o ao)(a:t.guard=n):aV r D all t F p o ao:=.a1 (λ_ _ _ _=>iY a) b
def aV.eval{o}(aR:bn P ad)(a:a8 r CT)(d:hA ad CT bg all F p t=h (o,n,cf))(b:U cf):aV r D all t F p o p:=ee aR a d b
def aV.y{o}(aR:bn P ad:=by exact bd)(iP:a8 r CT:=by first|assumption|exact a8.nil)(u:hA ad CT [] all F p t=h (o,n,[]):=by rfl):aV r D all t F p o p:=ee aR iP u v
def q8(j:aj P)(i:Nat)(a:m ap)(g:bH)(d:m an)(e:Nat->z)(pre:Nat->Bool):m ap->Nat->Prop
 |[],_=>True
 |k::o,b=>(match pre b with|true=>aV j i a k (dy a g e b) d (e b) d|false=>True)/\q8 j i a g d e pre o (b+1)
def q9(j:aj P)(i:Nat)(a:m ap)(g:bH)(d:m an)(e:Nat->z)(k:Nat):m ap->Nat->Prop
 |[],_=>True
 |o::p,b=>(match af b k with|true=>True|false=>aV j i a o (dy a g e b) d (e b) d)/\q9 j i a g d e k p (b+1)
theorem q8.get{i:Nat->z}{pre:Nat->Bool}:∀{j:m ap}{d:Nat},q8 r D all F p i pre j d->∀(b:Nat)e,j[b]?=h e->pre (d+b)=f->aV r D all e (dy all F i (d+b)) p (i (d+b)) p
 |[],_,_,b,e,g=>by grind
 |o::q,d,g,0,e,a=>λx=>by simp at a;subst a;have k:=g.1;grind
 |o::q,d,g,b+1,e,a=>λx=>by have:=q8.get g.2 b e M M;grind
theorem q9.get{i:Nat->z}{A}:∀{j:m ap}{d:Nat},q9 r D all F p i A j d->∀(b:Nat)e,j[b]?=h e->d+b≠A->aV r D all e (dy all F i (d+b)) p (i (d+b)) p
 |[],_,_,b,e,g=>by grind
 |o::q,d,g,0,e,a=>λx=>by simp at a;subst a;have k:=g.1;simp only[j']at x;grind[Nat.eq_of_beq_eq_true]
 |o::q,d,g,b+1,e,a=>λx=>by have:=q9.get g.2 b e M y;grind
def kM(pre:Nat->Bool)(d:Nat->z)(e:ι->Nat->z)(b:ι)(a:Nat):z:=match pre a with|true=>d a|false=>e b a
def Dp{s}{pre:Nat->Bool}{o:Nat->z}{k:ι->Nat->z}{u:ι->m an}{bq:ι->(Nat->Bool)->m an}(R:pre A=l)(T:n_ pre A all 0=f)(same:∀d b,pre b=f->k d b=o b)(C:∀b g,all[b]?=h g->pre b=f->aV r D all g (dy all F o b) p (o b) p)(qX:∀d (z:Nat->Bool) b g,all[b]?=h g->b≠A->b<s->z b=l->(∀e w,all[e]?=h w->z e=f->∀v∈c6 w.after.toList,z v=f)->aV r D all g (dy all F (k d) b) (bq d z) (k d b) (bq d (dm b z)))(B:∀g,all[A]?=h g->dx r D all g (dy all F o A) p (λd=>k d A) u)(Q:∀d (z:Nat->Bool),(∀b,z b=f->pre b=f)->u d=bq d (dm A z)):
  ∀j (z:Nat->Bool) b g,(j.isSome=z A/\(j=n->∀b,z b=f->pre b=f))->all[b]?=h g->b<s->z b=l->(∀v∈c6 g.after.toList,z v=f)->(∀d w,all[d]?=h w->z d=f->∀v∈c6 w.after.toList,z v=f) ->
   dx r D all g (dy all F (j.elim o k) b) (j.elim p λd=>bq d z) (λK:{E:Option ι // (∀d,z d=f->E.elim o k d=j.elim o k d)/\(E.isSome=dm b z A/\(E=n->∀e,dm b z e=f->pre e=f))}=>K.1.elim o k b) (λK=>K.1.elim p λd=>bq d (dm b z)):=by
 intro j z b g N t y x J q;have U:∀{e},dm b z e=f->e=b∨z e=f:=λ{e} i=>by unfold dm at i;grind[Nat.eq_of_beq_eq_true]
 have S:∀{e},e≠b->dm b z e=z e:=λ{e} i=>by unfold dm;grind[Nat.eq_of_beq_eq_true]
 by_cases M:b=A
 .subst M;cases j with
  |some d=>grind
  |none=>
   refine(B g t).to λd=>⟨⟨h d,λe i=>same d e (N.2 a e i),?_,λI=>by cases I⟩,a,Q d z (N.2 a)⟩
   unfold dm;grind[Nat.beq_refl]
 cases j with
 |none=>
  have O:pre b=f:=by grind[HB]
  exact(C b g t O).tocD ⟨n,λ_ _=>rfl,by grind,λ_ e i=>by grind⟩ a a
 |some d=>exact(qX d z b g t M y x q).tocD ⟨h d,λ_ _=>rfl,by grind,λI=>by cases I⟩ rfl rfl
def yJ{s}{pre:Nat->Bool}{b:Option ι}{z:Nat->Bool}(i:b.isSome=z A/\(b=n->∀a,z a=f->pre a=f))(e:A<s)(g:∀a,a<s->z a=f):∃d,b=h d:=by
 cases b with
 |some d=>grind
 |none=>grind
def g.df(O:P.follows Departure.mixedOrders=f)(A)(pre:Nat->Bool)(s:Nat->z)(v:ι->Nat->z)(d:ι->m an){id}(y:kO aD.toList=f)(B:n5 aD.toList 0=f)(C:od D aD.toList=f)(q:Nat.blt A (c aD.toList)=f)(E:pre A=l)(I:n_ pre A aD.toList 0=f)(t:q8 r D aD.toList F p s pre aD.toList 0)(qX:∀b,q9 r D aD.toList F (d b) (kM pre s v b) A aD.toList 0)(afg:dx r D aD.toList (aD.toList.getD A eo) (dy aD.toList F s A) p (λb=>kM pre s v b A) d)(N:∀b,g r D be ar .normal (nl aD.toList F (kM pre s v b)) (d b)):g r D be (.code (.region id aD f)::ar) .normal F p:=by
 have q:=fc q;have:=b0.reg (r:=r) (D:=D) (F:=F) (p:=p) O (all:=aD.toList) (c aD.toList) (λi:Option ι=>i.elim s (kM pre s v)) (λi _=>i.elim p d) (λi z=>i.isSome=z A/\(i=n->∀e,z e=f->pre e=f)) n ⟨rfl,λ_ _ J=>by cases J⟩ a y B C (bC _)
  (λe j k=>absurd k (n1.2 j)) (λi z _ _ e j k=>absurd k (n1.2 j))
  (Dp (bq:=λb _=>d b) E I (λb e w=>by simp only[kM,w]) (λe u o w=>by have:=t.get e u o M;grind) (λb z e u o x _ _ _=>by have:=(qX b).get e u o M;grind)
   (λu K=>by grind) (λ_ _ _=>rfl))
  (aN:=g r D be ar) (λi z Q R=>by obtain⟨b,rfl⟩:=yJ Q q R;rw[sB];exact .nil (N b)) id
 exact tY
end
section
variable {r:aj P}
def we(a:m ap)(b:Nat):m Nat->Bool
 |[]=>l
 |d::e=>match ed b (c6 (a.getD d eo).after.toList)with|true=>f|false=>we a b e
def Nb{all}{e}:∀{i:m Nat},we all e i=f->∃b,b∈i/\ed e (c6 (all.getD b eo).after.toList)=f
 |[],a=>by cases a
 |b::o,a=>by
  simp only[we]at a;cases g:ed e (c6 (all.getD b eo).after.toList)with
  |true=>exact⟨b,by simp,g⟩
  |false=>
   simp only[g]at a;obtain⟨k,j,d⟩:=Nb a;exact⟨k,by simp[j],d⟩
def uE(a:m ap):Nat->m Nat->Bool
 |0,_=>f
 |d+1,b=>match ed d b with
  |true=>uE a d b
  |false=>match we a d b with|true=>uE a d b|false=>l
def AH{all}:∀{d:Nat}{e:m Nat},uE all d e=f->∀a,a<d->ed a e=f∨∃g,ed g e=f/\ed a (c6 (all.getD g eo).after.toList)=f
 |0,_,_,a,o=>by omega
 |d+1,e,b,a,o=>by
  simp[uE]at b;cases j:ed d e with
  |true=>
   simp[j]at b;by_cases k:a=d
   .subst k;exact .inl j
   exact AH b a y
  |false=>
   simp[j]at b;cases i:we all d e with
   |false=>simp[i]at b
   |true=>
    simp[i]at b;by_cases k:a=d
    .subst k;obtain⟨g,k1,p⟩:=Nb i;exact .inr ⟨g,vt k1,p⟩
    exact AH b a y
def g.hF(G:P.follows Departure.mixedOrders=f)(A last)(pre:Nat->Bool)(s:Nat->z)(v:ι->Nat->z)(k i:ι->m an){id}(ab:kO aD.toList=f)(ad:n5 aD.toList 0=f)(ah:od D aD.toList=f)(x:Nat.blt A (c aD.toList)=f)(ak:pre A=l)(au:n_ pre A aD.toList 0=f)(aa:af (last+1) (c aD.toList)=f)(V:uE aD.toList last (c6 (aD.toList.getD last eo).after.toList)=f)(ai:pre last=l)(av:af last A=l)(J:q8 r D aD.toList F p s pre aD.toList 0)(qX:∀a,q9 r D aD.toList F (k a) (kM pre s v a) A aD.toList.dropLast 0)(u:dx r D aD.toList (aD.toList.getD A eo) (dy aD.toList F s A) p (λa=>kM pre s v a A) k)(I:∀a,aV r D aD.toList (aD.toList.getD last eo) (dy aD.toList F (kM pre s v a) last) (k a) (v a last) (i a))(q:∀a,g r D be ar .normal (nl aD.toList F (kM pre s v a)) (i a)):g r D be (.code (.region id aD f)::ar) .normal F p:=by
 have ag:=di aa;have aw:last≠A:=by grind[Nat.beq_refl]
 have x:=fc x;have:=b0.reg (r:=r) (D:=D) (F:=F) (p:=p) G (all:=aD.toList) (c aD.toList) (λt:Option ι=>t.elim s (kM pre s v)) (λt z=>t.elim p λa=>match z last with|true=>i a|false=>k a) (λt z=>t.isSome=z A/\(t=n->∀e,z e=f->pre e=f)) n ⟨rfl,λ_ _ K=>by cases K⟩ rfl ab ad ah (bC _)
  (λe b j=>absurd j (n1.2 b)) (λt z _ _ e b j=>absurd j (n1.2 b))
  (Dp (bq:=λa z=>match z last with|true=>i a|false=>k a) ak au (λa e O=>by simp[kM,O]) (λe B o O=>by have:=J.get e B o (by rwa [cV]);rwa [cV]at this)
   (λa z e B o Y X E w=>by
    by_cases ao:e=last
    .subst ao;have b:=I a;rw[show aD.toList.getD e eo=B by simp[al,o]]at b;simp[E,dm,sF];rw[show kM pre s v a e=v a e by simp[kM,ai]];exact b
    .have N:=(cO.1 o).1;have aj:aD.toList.dropLast[e]?=h B:=M;have b:=(qX a).get e B aj (by rwa [cV]);rw[cV]at b;have Q:af last e=l:=ub;have C:z last=l:=by
      cases C:z last with
      |false=>rfl
      |true=>
       have W:=bI (l:=aD.toList) (by omega:last<c aD.toList);have Z:∀q T,aD.toList[q]?=h T->aD.toList.getD q eo=T:=λq T K=>by simp[al,K]
       rw[Z _ _ W]at V;rcases AH V e y with j|⟨q,j,U⟩
       .grind [qJ]
       have ae:=w last _ W C q (qJ j);cases aq:aD.toList[q]? with
       |none=>rw[show aD.toList.getD q eo=eo by simp[al,aq]]at U;simp[eo,c6,ed]at U
       |some ok=>
        grind[qJ]
     simp[dm,Q,C];exact b)
   (λB R=>by rw[show aD.toList.getD A eo=B by simp[al,R]]at u;exact u)
   (λa z S=>by
    have C:z last=l:=M
    simp[dm,av,C]))
  (aN:=g r D be ar) (λt z H S=>by
   obtain⟨a,rfl⟩:=yJ H x S;rw[sB];simp[Option.elim,S last y]
   exact .nil (q a)) id
 exact tY
end
def jg(a:bE):Z:=.string ⟨a.toArray⟩
def Sn{a}{b}(d:a.data.toList=b):Value.string a=jg b:=by subst d;simp[jg]
theorem Eh{a}(d:Rd bB aa (.V a)):aa=jg a/\dW aa=f:=by
 cases d with
 |V b _=>exact⟨Sn b,rfl⟩
section
variable {r:aj P}{o:Nat->z}{bq:(Nat->Bool)->m an}
def ng:m ap->m (m Bool)->m (m Bool)
 |[],x=>x
 |t::a',x=>d (lL x (c6 t.after.toList)) λs=>ng a' (x++[s])
 where d:m Bool->(m Bool->m (m Bool))->m (m Bool)
 |[],bc=>bc []
 |true::a',bc=>d a' λa'=>bc (f::a')
 |false::a',bc=>d a' λa'=>bc (l::a')
theorem yh:∀d(a:m Bool->m (m Bool)),ng.d d a=a d
 |[],a=>rfl
 |true::b,a=>by simp[ng.d];rw[yh b]
 |false::b,a=>by simp[ng.d];rw[yh b]
def HA{a:m ap}{z:Nat->Bool}(r:∀(b:Nat)d,a[b]?=h d->z b=f->∀i∈c6 d.after.toList,z i=f):
  ∀o e,(∀k,o[k]?=a[c e+k]?)->(∀(b:Nat) g,e[b]?=h g->∀d,a[b]?=h d->(∀i∈c6 d.after.toList,z i=f)->∀j,gm g j=f->z j=f) ->
   ∀(b:Nat) (g:m Bool),(ng o e)[b]?=h g->∀d,a[b]?=h d->(∀i∈c6 d.after.toList,z i=f)->∀j,gm g j=f->z j=f
 |[],e,_,q=>q
 |d::o,e,p,q=>by
  simp[ng];rw[yh];refine HA r o _ (λk=>?_) ?_
  .have:=p (k+1);grind
  intro b g s;have t:=p 0;simp[m8,j']at t;rcases Nat.lt_trichotomy b (c e) with v|rfl|u
  .grind
  .rw[hq (bC _)]at s;grind[BH]
  grind
def eh(a:m ap)(d e:Nat):Bool:=match(ng a [])[d]? with|some b=>gm b e|none=>l
def AV{z:Nat->Bool}(k:∀(a:Nat)b,all[a]?=h b->z a=f->∀g∈c6 b.after.toList,z g=f):∀d b,all[d]?=h b->(∀g∈c6 b.after.toList,z g=f)->∀a,eh all d a=f->z a=f:=by
 intro d b i j a e;unfold eh at e;split at e
 .rename_i s m;exact HA k all [] E E d s m b i j a e
 grind
def F8{z:Nat->Bool}(m:∀(a:Nat)k,all[a]?=h k->z a=f->∀o∈c6 k.after.toList,z o=f)(q:z e=l):∀a,(a=e∨eh all a e=f)->z a=l:=by
 intro a j;rcases j with rfl|j
 .exact q
 cases p:z a with
 |false=>rfl
 |true=>
  have b:∃d,all[a]?=h d:=by
   cases b:all[a]? with
   |some d=>grind
   |none=>
    exfalso;have r:c (ng all [])=c all:=by
     have:∀g i,c (ng g i)=c i+c g:=by
      intro g;induction g with
      |nil=>intro i;simp[ng]
      |cons k g s=>intro i;simp[ng];grind[yh]
     grind
    unfold eh at j;grind
  obtain⟨d,b⟩:=b;have:=AV m a d b (m a d b p) e j;grind
def cp(k:aj P)(j:Nat)(a:m ap)(i:bH)(g:Nat->z)(e:(Nat->Bool)->m an)(b:Nat)(o:ap):Prop:=
 ∀z:Nat->Bool,(∀d,eh a b d=f->z d=f)->(∀d,(d=b∨eh a d b=f)->z d=l)->aV k j a o (dy a i g b) (e z) (g b) (e (dm b z))
def ue{P}(g:aj P)(d:Nat)(a:m ap)(b:bH)(j:Nat->z)(e:(Nat->Bool)->m an):m ap->Nat->Prop
 |[],_=>True
 |k::o,i=>cp g d a b j e i k/\ue g d a b j e o (i+1)
theorem ue.get{all}:∀{i:m ap}{g:Nat},ue r D all F o bq i g->∀d b,i[d]?=h b->cp r D all F o bq (g+d) b
 |[],_,_,d,b,e=>by grind
 |j::k,g,e,0,b,a=>by simp at a;subst a;exact e.1
 |j::k,g,e,d+1,b,a=>by have:=ue.get e.2 d b M;grind
def g.cu{id}(B:P.follows Departure.mixedOrders=f)(o:Nat->z)(k:(Nat->Bool)->m an)(C:k (λ_=>l)=p)(u:kO aD.toList=f)(w:n5 aD.toList 0=f)(x:od D aD.toList=f)(j:ue r D aD.toList F o k aD.toList 0)(E:∀z,(∀e,e<c aD.toList->z e=f)->g r D be ar .normal (nl aD.toList F o) (k z)):g r D be (.code (.region id aD f)::ar) .normal F p:=by
 have:=b0.reg (r:=r) (D:=D) (F:=F) (p:=p) B (all:=aD.toList) (c aD.toList) (λ_:Unit=>o) (λ_=>k) (λ_ _=>True) () v C u w x (bC _)
  (λe b d=>absurd d (n1.2 b)) (λs z _ _ e b d=>absurd d (n1.2 b))
  (λs z e t _ i _ A y q=>by have b:=j.get e t i;rw[cV]at b;exact(b z (AV q e t i y) (F8 q A)).tocD ⟨(),λ_ _=>rfl,v⟩ a a)
  (aN:=g r D be ar) (λs z _ I=>by rw[sB];exact .nil (E z I)) id
 exact tY
end
section
variable {r:aj P}{o:Nat->z}{i:Bool->Bool->Bool->m an}{C j ae:Nat}
abbrev lR(e:Bool->Bool->Bool->m an)(d a b:Nat):(Nat->Bool)->m an:=λz=>e (z d) (z a) (z b)
def mV{z:Nat->Bool}(a:af w e=l):dm e z w=z w:=by simp only[dm,a]
def zv{z:Nat->Bool}:dm e z e=f:=zV
def cp.eK(a:af C e=l)(b:af j e=l)(m:af ae e=l)(p:∀d g k,aV r D all t (dy all F o e) (i d g k) (o e) (i d g k)):cp r D all F o (lR i C j ae) e t:=by intro z _ _;show aV r D all t _ (i (z C) (z j) (z ae)) _ (i (dm e z C) (dm e z j) (dm e z ae));rw[mV a,mV b,mV m];exact p _ _ _
def cp.dt(aR:bn P ad:=by exact bd)(iP:a8 r CT:=by first|assumption|exact a8.nil)(u:∀x s I,hA ad CT [] all (dy all F o e) (i x s I) t=h (o e,n,cf):=by intro x s I;cases x<;>cases s<;>cases I<;>rfl)(cS:af C e=l:=by rfl)(dq:af j e=l:=by rfl)(ai:af ae e=l:=by rfl)(cw:U cf:=by simp only[U,a9];omega):cp r D all F o (lR i C j ae) e t:=.eK cS dq ai λx s I=>aV.eval aR iP (u x s I) cw
def cp.aE(aR:bn P ad:=by exact bd)(iP:a8 r CT:=by first|assumption|exact a8.nil)(u:∀x s I,hA ad CT [] all (dy all F o e) (i x s I) t=h (o e,n,[]):=by intro x s I;cases x<;>cases s<;>cases I<;>rfl)(cS:af C e=l:=by rfl)(dq:af j e=l:=by rfl)(ai:af ae e=l:=by rfl):cp r D all F o (lR i C j ae) e t:=.dt (cf:=[]) aR iP u cS dq ai v
def cp.eA(d:af C e=f)(s:af C e=f)(b:af j e=l)(m:af ae e=l)(q:∀g k,aV r D all t (dy all F o e) (i l g k) (o e) (i f g k)):cp r D all F o (lR i C j ae) e t:=by intro z _ u;have p:=di d;subst p;show aV r D all t _ (i (z C) (z j) (z ae)) _ (i (dm C z C) (dm C z j) (dm C z ae));rw[zv,mV b,mV m,u C (.inl a)];exact q _ _
def cp.eB(g:af j e=f)(b:af C e=l)(s:af ae e=l)(d:eh all ae e=f)(u:af j e=f)(q:∀k,aV r D all t (dy all F o e) (i k l l) (o e) (i k f l)):cp r D all F o (lR i C j ae) e t:=by intro z _ m;have p:=di g;subst p;show aV r D all t _ (i (z C) (z j) (z ae)) _ (i (dm j z C) (dm j z j) (dm j z ae));rw[zv,mV b,mV s,m j (.inl a),m ae (.inr d)];exact q _
def cp.eC(m:af ae e=f)(b:af C e=l)(d:af j e=l)(k:eh all e j=f)(u:af ae e=f)(s:∀p,aV r D all t (dy all F o e) (i p f l) (o e) (i p f f)):cp r D all F o (lR i C j ae) e t:=by intro z aR g;have q:=di m;subst q;show aV r D all t _ (i (z C) (z j) (z ae)) _ (i (dm ae z C) (dm ae z j) (dm ae z ae));rw[zv,mV b,mV d,g ae (.inl a),aR j k];exact s _
end
def xa(a:Nat->Bool):m Nat->Bool
 |[]=>l
 |b::d=>match a b with|true=>f|false=>xa a d
def Ge{e:Nat->Bool}:∀{d:m Nat},xa e d=f->∃b∈d,e b=f
 |[],a=>by cases a
 |b::k,a=>by
  simp[xa]at a;split at a
  .grind
  obtain⟨j,g,i⟩:=Ge a;grind
def vP(a:m ap)(d:Nat):Nat->m Nat->Bool
 |0,b=>ed d b
 |g+1,b=>match ed d b with|true=>f|false=>xa (λe=>vP a d g (c6 (a.getD e eo).after.toList)) b
def yZ{all}{i}{L:Nat->Prop}(j:∀k,k<c all->L k->∀a∈c6 (all.getD k eo).after.toList,L a):∀{o:Nat}{d:m Nat},vP all i o d=f->(∀a∈d,L a)->L i
 |0,d,b,e=>e i (qJ b)
 |o+1,d,b,e=>by
  simp only[vP]at b;split at b
  .grind [qJ]
  obtain⟨a,r,g⟩:=Ge b;rcases dY a (c all) with p|p
  .exact yZ j g (j a p (e a r))
  have:all.getD a eo=eo:=M;rw[this]at g;exact yZ j g (λs q=>by simp[eo,c6]at q)
def uH(a:m ap)(b:Nat)(d:m Nat):Nat->Bool
 |0=>f
 |e+1=>match vP a e b d with|true=>uH a b d e|false=>l
def AW{all}{i}{d}:∀{b:Nat},uH all i d b=f->∀a,a<b->vP all a i d=f
 |0,_,a,g=>by omega
 |b+1,e,a,g=>by
  simp[uH]at e;split at e
  .rename_i j;by_cases k:a=b
   .grind
   exact AW e a y
  grind
def uY(a:m ap)(d:Nat):Nat->Nat->Bool
 |_,0=>f
 |b,e+1=>match uH a d (c6 (a.getD b eo).after.toList) b with|true=>uY a d (b+1) e|false=>l
def BV{all}{g}:∀{b e:Nat},uY all g b e=f->∀a,b<=a->a<b+e->uH all g (c6 (all.getD a eo).after.toList) a=f
 |b,0,_,a,i,j=>by omega
 |b,e+1,d,a,i,j=>by
  simp[uY]at d;split at d
  .rename_i s;by_cases k:a=b
   .grind
   exact BV d a y y
  grind
section
variable {r:aj P}
def tn(b:Nat)(pre:Nat->Bool)(e:Nat->z)(g:ι->Nat->z)(d:ι)(a:Nat):z:=match Nat.blt a b with|true=>kM pre e g d a|false=>.any
def g.eI(ad:P.follows Departure.mixedOrders=f)(A s U)(pre:Nat->Bool)(k:Nat->z)(x:ι->Nat->z)(e:ι->m an){id}(S:kO aD.toList=f)(T:n5 aD.toList 0=f)(V:od D aD.toList=f)(Z:pre A=l)(ab:n_ pre A aD.toList 0=f)(R:Nat.blt s (c aD.toList)=f)(i:Nat.blt A s=f)(Y:∀b,pre b=f->b<s)(o:uY aD.toList U s (c aD.toList-s)=f)(w:q8 r D aD.toList F p k pre aD.toList 0)(qX:∀d,q9 r D aD.toList F (e d) (tn s pre k x d) A (aD.toList.take s) 0)(Q:dx r D aD.toList (aD.toList.getD A eo) (dy aD.toList F k A) p (λd=>tn s pre k x d A) e)(I:∀d,g r D be (.ae aD.toList (aD.toList.drop s)::ar) .normal (nl aD.toList F (tn s pre k x d)) (e d)):g r D be (.code (.region id aD f)::ar) .normal F p:=by
 have R:=fc R;have i:=fc i;have:=b0.reg (r:=r) (D:=D) (F:=F) (p:=p) ad (all:=aD.toList) s (λj:Option ι=>j.elim k (tn s pre k x)) (λj _=>j.elim p e) (λj z=>j.isSome=z A/\(j=n->∀b,z b=f->pre b=f)) n ⟨rfl,λ_ _ W=>by cases W⟩ a S T V y
  (λb t B L ae q I E=>yZ ae (AW (BV o b t y) I E) q)
  (λj z J K b t B=>by
   obtain⟨d,rfl⟩:=yJ J i K;have:Nat.blt b s=l:=by
    cases C:Nat.blt b s with
    |false=>rfl
    |true=>have:=fc C;omega
   simp[Option.elim,tn,this])
  (Dp (bq:=λd _=>e d) Z ab (λd b q=>by have:Nat.blt b s=f:=Aq (Y b q);simp[tn,this,kM,q])
   (λb v u q=>by have:=w.get b v u M;grind)
   (λd z b v u O N _ _=>by
    have aa:(aD.toList.take s)[b]?=h v:=M
    have:=(qX d).get b v aa M;grind)
   (λv X=>by grind) (λ_ _ _=>rfl))
  (aN:=g r D be ar) (λj z J K=>by obtain⟨d,rfl⟩:=yJ J i K;exact I d) id
 exact tY
end
def eb(b:Nat)(e:av)(i:Z):Z->(Nat->Option Obj)->Prop:=λg a=>g=.pointer (h ⟨b,0,n⟩)/\a b=h (.cells #[i] e (0,0))/\∀d,d≠b->a d=n
section
variable {r:aj P}
def aV.gp(aR:bn P ad){q C}(d){e}(an:oN all F t=f)(w:t.op=.load q (.global C))(J:c7 d p=h (.J (eb C W aa)))(s:bZ ad q=h e)(ab:dW aa=f)(S:hc e [.c (.val aa)]=h (.aq (.c (.val aa)))):
  aV r D all t F p (ax (.val aa)) p:=by
 intro b T ag I j av ah au aw Q E K A;refine rq E K (j1 an _ _ _ ag) λi Y=>?_;have m:=I.rely Y;have aE:=ej J;have ao:d<c i.l:=by rw[m.len];grind
 have x:=bI ao;generalize i.l[d]=L at x;obtain⟨ae,⟨aj,y,aq⟩,H,Z,ar⟩:=m.box d _ L aE x;have z:=H C _ y;have G:C∈L.al:=(Z C).2 M
 have X:T.eval (.global C)=.pointer (h ⟨C,0,n⟩):=rfl;have N:bN p i [aa] [.c (.val aa)]:=⟨Rd.val ab,v⟩;obtain⟨R,V,O⟩:=tD (b:=i) (p:=p) (P:=P) (aR q e s) (j:=C) (off:=0) (B:=[aa]) (ah:=[.c (.val aa)]) (ai:=.aq (.c (.val aa))) (λU az u=>by
  simp only[aL,z]
  grind) N S
 refine⟨.value R,i,R,by simp[ac,w,X,Instr.loadAt,Instr.sureAddr,V],.inl a,⟨⟨p,p,m,m,.refl _ _⟩,?_⟩,A R i O m Y.aV⟩;intro o g;have ak:o∈(loadVar q ⟨C,0,n⟩).events P i.a #[]:=by
  have ai:ac T.eval t=(do pure (.value (<-loadVar q ⟨C,0,n⟩))):=by simp[ac,w,X,Instr.loadAt,Instr.sureAddr]
  rw[ai]at g;simpa[V]using g
 obtain⟨U,u,rfl⟩:=pd (aR q e s) (k:=1) (λU u=>⟨aa,by simp only[aL,z];grind⟩) (by have:=r_ S;grind) o ak;exact qp (b9 x) G
end
section
variable {r:aj P}
def ug{P}(j:aj P)(i:Nat)(a:m ap)(g:bH)(b:m an)(e:Nat->z):m z->m ap->Nat->Prop
 |_::p,o::k,d=>aV j i a o (dy a g e d) b (e d) b/\ug j i a g b e p k (d+1)
 |[],_,_=>True
 |_::_,[],_=>False
theorem ug.get{all}{o:Nat->z}:∀{j:m z}{k:m ap}{i:Nat},ug r D all F p o j k i->∀a e,k[a]?=h e->a<c j->aV r D all e (dy all F o (i+a)) p (o (i+a)) p
 |[],_,_,_,a,e,_,b=>absurd b (iF _)
 |_::j,[],_,g,a,e,_,b=>g.elim
 |q::j,s::k,i,g,0,e,d,_=>by cases d;exact g.1
 |q::j,s::k,i,g,a+1,e,d,b=>by have:=ug.get g.2 a e d M;grind
def g.gh(C:P.follows Departure.mixedOrders=f)(ag)(s){id}(w:kO aD.toList=f)(x:n5 aD.toList 0=f)(A:od D aD.toList=f)(j:ay (c ag) (c aD.toList)=f)(e:uY aD.toList s (c ag) (c aD.toList-c ag)=f)(i:ug r D aD.toList F p (λd=>ag.getD d .any) ag aD.toList 0)(t:g r D be (.ae aD.toList (aD.toList.drop (c ag))::ar) .normal (nl aD.toList F λd=>ag.getD d .any) p):g r D be (.code (.region id aD f)::ar) .normal F p:=by
 have j:=fc j;have:=b0.reg (r:=r) (D:=D) (F:=F) (p:=p) C (all:=aD.toList) (c ag) (λ_:Unit=>λd=>ag.getD d .any) (λ_ _=>p) (λ_ _=>True) () v a w x A j
  (λd b k L E B t o=>yZ E (AW (BV e d b y) t o) B)
  (λu z _ _ d b k=>by grind)
  (λu z d I _ q m _ _ _=>by have b:=i.get d I q m;rw[cV]at b;exact b.tocD ⟨(),λ_ _=>rfl,v⟩ a a)
  (aN:=g r D be ar) (λu z _ _=>t) id
 exact tY
end
section
variable {r:aj P}
def pY{e:Type}(w:aj P)(v:Nat)(o:fs)(u:m ij)(t:e->Prop)(s:e->bH)(q:e->m an)(r:e->Nat)(x:Nat)(y:e):fs:=λp d i=>match p with
 |.normal=>∃j k,x<=k/\t j/\r j<r y/\iA d (s j)/\qE k (s j)=f/\∃a b,i=a++b/\c a=k/\(kk k a=f/\jQ b=f)/\ra a (q j)
 |p=>g w v o u p d i
def g.hs{B:Type}(aa)(A:B->Prop)(e:B->bH)(b8:B->m an)(Y:B->Nat)(o){dr}(av:iS F (e o)=h ab)(aD:U ab)(aJ:jm p (b8 o)=h dr)(ax:U dr)(aG:c p=aa)(aw:A o)(round:∀o,A o->g r D (pY r D be ar A e b8 Y aa o) [.code s] .normal (e o) (b8 o)):g r D be (.code (.loop s)::ar) .normal F p:=by
 intro ak x aE u j W R J b T;have w:=jP aJ ax;obtain⟨aQ,N,_⟩:=w ak u;refine xc (λah d az=>∃X,A X/\bY D (b8 X) az (e X) d/\bb (b8 X) az/\dc p ak (b8 X) az/\Y X=ah) ?_ ?_ ⟨o,aw,(aE.le (eD av aD)).al w u,aQ,N.too1 u,a⟩
 .rintro k d az ⟨X,Q,O,C,I,ai⟩;exact On
 rintro ah d az ⟨X,Q,O,C,I,rfl⟩ V;refine round X Q az d O C j (.inLoop s::W) R J b ?_;intro ai aN aq v K aj H t i;cases ai with
 |normal=>
  obtain⟨ao,aK,ag,aB,aI,aH,aS,q,Z,rfl,ae,⟨aR,au⟩,aM⟩:=aj;have G:=t.drop M;obtain⟨aP,ad,aL⟩:=aM _ G;have z:=H.le aH;have S:eW v (v.cut (c q)):=⟨rfl,λ_ _ _ aF=>aF,λ_ _ _=>rfl,t.mem,λj b=>b.imp id λ⟨L,aA,b⟩=>⟨L,hf aA,b⟩⟩
  refine .aU S (V K (v.cut (c q)) (Y ao) aI ⟨ao,aB,⟨z.size,z.defers.imp λ_ cS=>(cS.drop au).mono ad.ext,λaO=>aL _ _ ((z.aH aO).drop (vi M))⟩,aP,?_,a⟩);exact((I.trans i).drop y).trans (ad.too1 G)
 |_=>exact kI.cons (λ_ _=>rfl) E (T _ _ _ _ _ aj H t (I.trans i))
def g.ft{d:Type}{q}{i:d->Prop}{a:d->bH}{b:d->m an}{s:d->Nat}{o}{w}(k)(X){dr}(e:q<=k)(v:iS F (a X)=h ab)(z:U ab)(t:qE k (a X)=f)(x:vz k p=f)(j:jm (p.take k) (b X)=h dr)(A:U dr)(y:kk k (p.take k)=f)(B:i X)(u:s X<s o):
  g r D (pY r D be w i a b s q o) [] .normal F p:=
 ⟨X,k,e,B,u,eD v z,t,p.take k,p.drop k,(F2 k p).symm,by grind[Nat.le_of_ble_eq_true,yL],⟨y,(yL x).2⟩,jP j A⟩
def g.fG{t:Type}{s}{k:t->Prop}{e:t->bH}{i:t->m an}{q:t->Nat}{o}{id}{x j y}(u:iO id x=n)(v:iO id j=h y)(z:g r D be y .normal F p):
  g r D (pY r D be j k e i q s o) (.code (.exit id)::x) .normal F p:=
 b0.mono (g.bt (O:=λa b=>pY r D be j k e i q s o .normal a b) u v z) λd a b A=>by
  have key:∀w d,g r D (λd a b=>match d with
    |.normal=>pY r D be j k e i q s o .normal a b
    |d=>g r D be j d a b) w d a b->g r D (pY r D be j k e i q s o) w d a b:=by
   have d:(λd a b=>match d with
    |.normal=>pY r D be j k e i q s o .normal a b
    |d=>g r D be j d a b)=pY r D be j k e i q s o:=by funext d a b;cases d<;>rfl
   grind
  exact key _ _ A
end
def cY(d:bH)(a:m Nat):bH:=a.map λb=>(b,look d b)
section
variable {r:aj P}
def g.dF{e:Type}(k)(aP)(d:e->Prop)(a:e->bH)(b:e->m an)(q:e->Nat)(o){dr}(j:iS F (cY F aP++a o)=h ab)(t:U ab)(x:jm p (b o)=h dr)(u:U dr)(i:c p=k)(v:d o)(round:∀o,d o->g r D (mf r D be ar d (λo=>cY F aP++a o) b q k o) [.code s] .normal (cY F aP++a o) (b o)):g r D be (.code (.loop s)::ar) .normal F p:=
 .aL k d (λo=>cY F aP++a o) b q o j t x u i v round
end
section
variable {r:aj P}{o:Nat->z}{d:Bool->Bool->Bool->Bool->m an}{ae ai i C:Nat}
abbrev mx(g:Bool->Bool->Bool->Bool->m an)(b a e d:Nat):(Nat->Bool)->m an:=λz=>g (z b) (z a) (z e) (z d)
theorem nI{z:Nat->Bool}(a:af w e=l):dm e z w=z w:=by simp only[dm,a]
theorem wd{z:Nat->Bool}:dm e z e=f:=zV
def cp.jH(k:af ae e=l)(m:af ai e=l)(s:af i e=l)(q:af C e=l)(p:∀a b g j,aV r D all t (dy all F o e) (d a b g j) (o e) (d a b g j)):cp r D all F o (mx d ae ai i C) e t:=by intro z _ _;grind[nI]
def cp.jI(aR:bn P ad)(iP:a8 r CT)(cw:U cf)(u:∀x j s I,hA ad CT [] all (dy all F o e) (d x j s I) t=h (o e,n,cf):=by intro x j s I;cases x<;>cases j<;>cases s<;>cases I<;>rfl)(cS:af ae e=l:=by rfl)(dq:af ai e=l:=by rfl)(A:af i e=l:=by rfl)(w:af C e=l:=by rfl):cp r D all F o (mx d ae ai i C) e t:=.jH cS dq A w λx j s I=>aV.eval aR iP (u x j s I) cw
def cp.aY(aR:bn P ad:=by exact bd)(iP:a8 r CT:=by first|assumption|exact a8.nil)(u:∀x j s I,hA ad CT [] all (dy all F o e) (d x j s I) t=h (o e,n,[]):=by intro x j s I;cases x<;>cases j<;>cases s<;>cases I<;>rfl)(cS:af ae e=l:=by rfl)(dq:af ai e=l:=by rfl)(A:af i e=l:=by rfl)(w:af C e=l:=by rfl):cp r D all F o (mx d ae ai i C) e t:=.jI (cf:=[]) aR iP v u cS dq A w
def cp.ay(dq:af ai ae=l)(I:af i ae=l)(x:af C ae=l)(s:eh all ai ae=f)(e:eh all i ae=f)(j:eh all C ae=f)(u:aV r D all t (dy all F o ae) (d l l l l) (o ae) (d f l l l)):cp r D all F o (mx d ae ai i C) ae t:=zU
def cp.eR(a:af ae ai=l)(j:af i ai=l)(e:af C ai=l)(b:eh all ai ae=f)(m:eh all i ai=f)(g:eh all C ai=f)(k:aV r D all t (dy all F o ai) (d f l l l) (o ai) (d f f l l)):cp r D all F o (mx d ae ai i C) ai t:=zU
def cp.eT(a:af ae i=l)(b:af ai i=l)(j:af C i=l)(k:eh all i ae=f)(g:eh all i ai=f)(e:eh all C i=f)(m:aV r D all t (dy all F o i) (d f f l l) (o i) (d f f f l)):cp r D all F o (mx d ae ai i C) i t:=zU
def cp.eU(a:af ae C=l)(b:af ai C=l)(j:af i C=l)(k:eh all C ae=f)(g:eh all C ai=f)(e:eh all C i=f)(m:aV r D all t (dy all F o C) (d f f f l) (o C) (d f f f f)):cp r D all F o (mx d ae ai i C) C t:=zU
end
section
variable {ad:m (Nat×bv)}
def a0.jU(aR:bn P ad){Q V}(ab:t.op=.slice q o (h Q) (h X) (h V)){G a4}(ag:bZ ad q=h G)(L:G.desc=.slice W)(ah:bZ ad W=h a4){eR}{r d m}{e w A}(ak:∀ae s,bx p ae s (η o)->Rd ae.u s (.S eR a4.size k T))(ai:η Q=ax (.int r e))(aj:η X=ax (.int d w))(aN:η V=ax (.int m A))(Z:0<=e)(aF:e<=w)(au:w<=A)(av:A<=k):
  a0 P t η p (ax (.S l a4.size (w.toNat-e.toNat) (fx e.toNat T))) p:=by
 refine .aZ λb I aw C=>?_;have U:=ak b _ (C o);have get:∀i S s,η i=ax (.int S s)->I i=.int S s:=λi S s z=>by have u:=C i;rw[z]at u;replace u:=b7 u;generalize I i=aA at u;cases u;rfl
 have O:=get Q r e ai;have N:=get X d w aj;have Y:=get V m A aN;obtain⟨aa,g,B,H,aD,aE,aG,a,az⟩:=U.b1;rw[H]at U;have K:=(aR q G ag).run_underlying (Q:=b.a);rw[L]at K;have em:((A.toNat:Nat):Int)=A:=rk y;have aq:((w.toNat:Nat):Int)=w:=rk y;have v:(aX f k g (h (.int r e)) (h (.int d w)) (h (.int m A))).run P b.a=.ok (e.toNat,w.toNat,A.toNat) b.a:=by simp[aX,run_sliceBound (P:=P) b.a m A g _ y y,run_sliceBound (P:=P) b.a d w A.toNat _ y y,run_sliceBound (P:=P) b.a r e w.toNat _ Z y]
 have an:(aX f k g (h (.int r e)) (h (.int d w)) (h (.int m A))).events P b.a #[]=#[]:=by simp[aX,run_sliceBound (P:=P) b.a m A g _ y y,run_sliceBound (P:=P) b.a d w A.toNat _ y y,lc (P:=P) b.a m A g _ y y,lc (P:=P) b.a d w A.toNat _ y y,lc (P:=P) b.a r e w.toNat _ Z y]
 refine⟨.slice (if A.toNat=e.toNat then aa else aa.map (·.add (e.toNat*a4.size))) (w.toNat-e.toNat) (A.toNat-e.toNat),?_,?_,by simp[ac,ab,H,O,N,Y,Instr.sliceAt,K,Instr.slice,v,an]⟩
 .simp[ac,ab,H,O,N,Y,Instr.sliceAt,K,Instr.slice,v,(aR W a4 ah).bb]
 cases U with
 |S ao F ar _ _ _ R M x D=>
  refine Rd.S ao (F+e.toNat*a4.size) (λi w=>ar (e.toNat+i) w) y y E (λi z=>R _ y) (λaB=>?_) (λi z w J j=>?_) (λi z w J j=>D _ y w J j)
  .rw[bm y,M y];simp[gN]
  have:=x (e.toNat+i) y w J j;grind
end
def i7(j:Z)(o:m Int):Z->(Nat->Option Obj)->Prop:=λp e=>p=j/\∃k a i,j=.map (h k)/\(∀g,e g=if g=k then h (.map a i)else n)/\MapKept.Stamped a i /\
 (∀d∈a.toList,∃b,d.key=.int .i64 b/\d.val=.bool f/\a7 .i64 b)/\∀b,b∈o↔∃d∈a.toList,d.key=.int .i64 b
structure RE(p:m an)(b:a5)(j:Nat)(ae:Z)(d:m Int)(L:Loc)(a':Nat)(T:Array MapEntry)(s:Nat):Prop where
 bX:b.l[j]?=h L
 v:L.v=ae
 b8:ae=.map (h a')
 bz:MapKept.Stamped T s
 cv:∀ai∈T.toList,∃k,ai.key=.int .i64 k/\ai.val=.bool f/\a7 .i64 k
 mem:∀k,k∈d↔∃ai∈T.toList,ai.key=.int .i64 k
 heap:b.a.heap[a']?=h (.map T s)
 al:∀j,j∈L.al↔j=a'
def i7.open{ae}{d}(bP:bb p b)(o:p[j]?=h (.J (i7 ae d))):∃L g a i,RE p b j ae d L g a i:=by have e:j<c b.l:=hY;obtain⟨r,⟨k,g,a,i,m,w,s,u,q⟩,t,v,_⟩:=bP.box j _ _ o (bI e);exact⟨_,g,a,i,bI e,k,m,s,u,q,t g _ M,λj=>by grind⟩
section
variable {ad R bc:av}{cL:aB}{ae:Z}{d:m Int}{k:Int}
def JZ{b:Array MapEntry}(g:∀a∈b.toList,∃d,a.key=.int .i64 d/\a.val=.bool f/\a7 .i64 d):∀a∈b.toList,MapKept.IsKey (.int .i64) a.key:=λa e=>by obtain⟨d,i,_⟩:=g a e;exact ht
def DQ{ae}{a}(e:bx p b aa a)(d:a=cM ae):aa=ae:=by subst d;exact Rd.bd e
def Lz{k}{a}(e:bx p b aa a)(d:a=ax (.int .i64 k)):aa=.int .i64 k/\a7 .i64 k:=by subst d;have:=b7 e;generalize aa=g at this;cases this;exact bw
def a0.jO(x:t.op=.lookup ad o X l)(aR:P.underlying ad=h (.map R bc))(e:P.underlying R=h (.int .i64))(T:∀J,(zeroValue bc).run P J=.ok (.bool l) J)(D:p[j]?=h (.J (i7 ae d)))(S:η o=cM ae)(z:η X=ax (.int .i64 k)):a0 P t η p (ax (.bool (d.contains k))) p:=by
 refine a0.du λq Z C s=>?_;obtain⟨L,u,A,ab,b⟩:=i7.open C D;have r:=(DQ (s o) S).trans b.b8;obtain⟨O,G⟩:=Lz (s X) z;obtain⟨U,y⟩:=Jq (I:=.int .i64) (i:=.int .i64 k) rfl (JZ b.cv);have B:h4 q ⟨.obj u,l,l⟩:=mw (b9 b.bX) ((b.al u).2 a);have key:∃g:Bool,(Instr.lookup ad (.map (h u)) (.int .i64 k) l).run P q.a=.ok (.bool g) q.a/\(Instr.lookup ad (.map (h u)) (.int .i64 k) l).events P q.a #[]=#[⟨.obj u,l,l⟩]/\g=d.contains k:=by
  cases U with
  |none=>
   obtain⟨m,v⟩:=Ke (ok:=l) aR e b.heap y (λ_=>T q.a)
   exact⟨l,m,v,by
    symm;rw[<-p7,Aw,b.mem]
    rintro⟨w,N,e⟩;exact y.db a w N e⟩
  |some F=>
   obtain⟨Y,g⟩:=F;obtain⟨m,v⟩:=Ke (ok:=l) (cL:=K) aR e b.heap y (λx=>by cases x);obtain⟨w,V,W,aa⟩:=y.gH Y g rfl;have E:w∈A.toList:=M;obtain⟨_,_,H,_⟩:=b.cv w E;exact⟨f,m.trans (show Result.ok g q.a=_ by grind),v,by symm;rw[Aw,b.mem];grind⟩
 obtain⟨g,m,v,Q⟩:=key;refine⟨.bool g,?_,by rw[<-Q];exact Rd.bool,?_⟩
 .simp only[ac,x,r,O,cH,m,c1,d8]
 simp only[ac,x,r,O,aH,m,v,aJ,Sem.events_pure];exact .aq B
def a0.jQ(ag:t.op=.mapUpdate ad o X cL)(aR:P.underlying ad=h (.map R bc))(D:P.underlying R=h (.int .i64))(F:p[j]?=h (.J (i7 ae d)))(an:η o=cM ae)(ak:η X=ax (.int .i64 k))(aj:η cL=ax (.bool f)):a0 P t η p .any (p.set j (.J (i7 ae (d++[k])))):=by
 intro r K C w;obtain⟨L,m,s,ab,e⟩:=i7.open C F;have A:=(DQ (w o) an).trans e.b8;obtain⟨aa,az⟩:=Lz (w X) ak;have Z:K cL=.bool f:=by have:=w cL;rw[aj]at this;have:=b7 this;generalize K cL=Y at this;cases this;rfl
 obtain⟨aq,Q⟩:=Jq (I:=.int .i64) (i:=.int .i64 k) rfl (JZ e.cv);have y:∀Y,h4 r ⟨.obj m,Y,l⟩:=λY=>mw (b9 e.bX) ((e.al m).2 a);have G:=(jb.1 e.heap).1;have key:∃b q,(Instr.mapUpdate ad (.map (h m)) (.int .i64 k) (.bool f)).run P r.a=.ok () {r.a with heap:=r.a.heap.setIfInBounds m (.map b q)}/\(Instr.mapUpdate ad (.map (h m)) (.int .i64 k) (.bool f)).events P r.a #[]=#[⟨.obj m,l,l⟩,⟨.obj m,f,l⟩] /\
   MapKept.Stamped b q/\(∀g∈b.toList,∃k,g.key=.int .i64 k/\g.val=.bool f/\a7 .i64 k)/\∀S,S∈d++[k]↔∃g∈b.toList,g.key=.int .i64 S:=by
  cases aq with
  |none=>
   obtain⟨x,J⟩:=M8 (o:=.bool f) aR D e.heap Q;refine⟨_,_,x,J,MapKept.stamped_push e.bz (Q.db a),λg O=>?_,λS=>?_⟩
   .rw[Array.toList_push,gl]at O;rcases O with O|O
    .exact e.cv g O
    grind
   rw[gl,e.mem,Array.toList_push];constructor
   .rintro(⟨g,v,B⟩|v)
    .grind
    simp_all
   grind
  |some W=>
   obtain⟨V,ar⟩:=W;obtain⟨g,v,B,aw⟩:=Q.gH V ar rfl;have U:g∈s.toList:=M;obtain⟨_,_,ai,_⟩:=e.cv g U;have au:s.modify V (λg=>{key:=.int .i64 k,val:=.bool f,born:=g.born})=s:=by
    apply Array.ext_getElem?;intro ah;rw[Ax];split
    .rename_i bp;subst bp;rw[v,<-B,<-ai];rfl
    simp
   obtain⟨x,J⟩:=M8 (o:=.bool f) aR D e.heap Q;refine⟨s,ab,x.trans (show Result.ok () {r.a with heap:=r.a.heap.setIfInBounds m (.map (s.modify V λg=>{key:=.int .i64 k,val:=.bool f,born:=g.born}) ab)}=_ by grind),J,e.bz,e.cv,λS=>?_⟩;rw[gl,e.mem];constructor
   .rintro(z|z)
    .exact z
    grind
   grind
 obtain⟨b,q,x,J,ao,H,aN⟩:=key;have N:=C.b_ (j5:=i7 ae (d++[k])) (cn:=L) (bi:={r.a with heap:=r.a.heap.setIfInBounds m (.map b q)}) F e.bX rfl E (λj _ u=>by show(r.a.heap.setIfInBounds m _)[j]?=_;rw[sG (by rintro rfl;exact u ((e.al m).2 rfl))]) (λj u=>.inl u)
  ⟨λj=>if j=m then h (.map b q)else n,⟨e.v,m,b,q,e.b8,λ_=>rfl,ao,H,aN⟩,λj av u=>by grind,λj=>by rw[e.al];by_cases g:j=m<;>simp[g]⟩ a a a
 have T:r.l.set j L=r.l:=by
  apply p';intro ah;by_cases g:j=ah
  .subst g;rw[im (cO.1 e.bX).1,e.bX]
  grind
 rw[T]at N;refine⟨.skip,_,?_,a,N.1,N.2,?_⟩
 .simp only[ac,ag,A,aa,Z,cH,x,c1,d8]
 simp only[ac,ag,A,aa,Z,aH,x,J,aJ,Sem.events_pure];exact .fj (y _) (y _)
end
section
variable {r:aj P}{ad:av}
def g.hZ(o:t.op=.makeMap ad n)(x:t.guard=n)(y:fd D t.dst=f)(w:∀k,g r D be (.ae all bs::ar) .normal (fT t.dst (cM k) F) (p++[.J (i7 k [])])):g r D be (.ae all (t::bs)::ar) .normal F p:=by
 refine g.cI (ι:=Z) (λk=>cM k) (λk=>p++[.J (i7 k [])]) x y (λb A I e=>?_) w;let bi:au:={b.a with heap:=b.a.heap.push (.map #[] 0)}
 have B:bi.heap[b.a.heap.size]?=h (.map #[] 0):=M;have E:bi.heap.size=b.a.heap.size+1:=M;obtain⟨u,q⟩:=e.cY (cd:=b.u) (bi:=bi) M (λi d=>by grind) (λ_ _ _=>rfl) (λi d t z j=>by have:=e.block j;omega) rfl rfl rfl;obtain⟨v,s⟩:=u.b0 q rfl e (bX:=.J (i7 (.map (h b.a.heap.size)) [])) (L:=⟨.map (h b.a.heap.size),[b.a.heap.size]⟩)
  ⟨λi=>if i=b.a.heap.size then h (.map #[] 0)else n,⟨rfl,_,#[],0,rfl,λ_=>rfl,MapKept.stamped_empty 0,λm J=>by grind,λC=>by simp⟩,λi t d=>by
   grind,λi=>by by_cases m:i=b.a.heap.size<;>simp[m],λi d t=>by
   simp at d;subst d;show b.u _ _=n;cases j:b.u b.a.heap.size t with
   |none=>rfl
   |some z=>have:=e.block j;omega⟩ (λi d=>by grind)
 refine⟨.map (h b.a.heap.size),.value (.map (h b.a.heap.size)),_,.map (h b.a.heap.size),?_,.inl a,Rd.val a,v,s,?_⟩
 .simp[ac,o,Instr.makeMap,run_newObj,bi]
 simp[ac,o,Instr.makeMap];exact .nil
end
section
variable {ad:m (Nat×bv)}
def a0.hX(aR:bn P ad){Q}(aa:t.op=.slice q o (h Q) (h X) n){H a4}(aj:bZ ad q=h H)(an:H.desc=.slice W)(ar:bZ ad W=h a4){C i S}{u s}{e w}(aw:η o=cz d (.S C i S k))(K:a4.size=i){aN M}(A:p[d]?=h (.h aN M C T))(au:η Q=ax (.int u e))(av:η X=ax (.int s w))(az:0<=e)(aA:e<=w)(aB:S+w<=C):a0 P t η p (cz d (.S C i (S+e.toNat) (w.toNat-e.toNat))) p:=by
 subst K;refine .aZ λg r J m=>?_;have ai:=m o;rw[aw]at ai;have ah:=ai;change cx p g (r o) (.R d _)at ah;obtain⟨R,⟨Z,E,b,Y,V,ab,aI,ak,U,G⟩,z,ae⟩:=ah;have aH:C<=Y:=by
  obtain⟨L,aq,O⟩:=(ae _ _ _ _ A).2 rfl;rcases J.box d _ L A aq with⟨rfl,rfl⟩|⟨j,g1,B,aF,rfl,_,_,ao,_⟩
  .exact gZ _
  rw[U]at O;cases O;exact ao
 have D:=m Q;rw[au]at D;replace D:=b7 D;generalize ag:r Q=aD at D;cases D;have v:=m X;rw[av]at v;replace v:=b7 v;generalize N:r X=aE at v;cases v;have F:=(aR q H aj).run_underlying (Q:=g.a);rw[an]at F;have x:(aX f k b (h (.int u e)) (h (.int s w)) n).run P g.a=.ok (e.toNat,w.toNat,b) g.a:=by simp[aX,run_sliceBound (P:=P) g.a s w b _ y y,run_sliceBound (P:=P) g.a u e w.toNat _ y y]
 have I:(aX f k b (h (.int u e)) (h (.int s w)) n).events P g.a #[]=#[]:=by
  simp[aX,run_sliceBound (P:=P) g.a s w b _ y y,run_sliceBound (P:=P) g.a u e w.toNat _ y y,
   lc (P:=P) g.a s w b _ y y,lc (P:=P) g.a u e w.toNat _ y y]
 refine⟨.slice (if b=e.toNat then Z else Z.map (·.add (e.toNat*a4.size))) (w.toNat-e.toNat) (b-e.toNat),?_,⟨R,⟨_,E,_,Y,a,by omega,by omega,ak,U,λaG=>?_⟩,z,ae⟩,by simp[ac,aa,V,ag,N,Instr.sliceAt,F,Instr.slice,x,I]⟩
 .simp[ac,aa,V,ag,N,Instr.sliceAt,F,Instr.slice,x,(aR W a4 ar).bb]
 obtain⟨j,rfl,rfl⟩:=G y;exact QV
end
section
open Go.ChangeMaps (setBlock)
section
def We(d)(ty)(b j e p)(seen)(T)(clock)(t:d.heap[b]?=h (.mapIter (h j) e seen p))(v:d.heap[j]?=h (.map T clock))(A:∀m∈T.toList,m.born<e)(D:e<=p):
    ∀i∈(Instr.next (.pointer (h ⟨b,0,n⟩)) l ty).events P d #[],i.sync=l/\(i.loc=.obj b∨i.loc=.obj j):=by
  have J:(getObj b).run P d=.ok (.mapIter (h j) e seen p) d:=by simp[getObj,Sem.run,t]
  have F:(getObj j).run P d=.ok (.map T clock) d:=by simp[getObj,Sem.run,v]
  have O:∀T,(getObj b).events P d T=T.push ⟨.obj b,l,l⟩:=λT=>by simp only[getObj,Sem.events,Sem.runT,t];rfl
  have I:∀T,(getObj j).events P d T=T.push ⟨.obj j,l,l⟩:=λT=>by simp only[getObj,Sem.events,Sem.runT,v];rfl
  have K:∀w1 r k,w1.heap[b]?=h (.mapIter (h j) e seen p)->(setObj b (.mapIter (h j) e r clock)).events P w1 k=k.push ⟨.obj b,f,l⟩:=λw1 r k g=>by simp[setObj,Sem.events,Sem.runT,g];rfl
  have y:∀w1 q,w1.heap[b]?=h (.mapIter (h j) e seen p)->∃w2,(setObj b q).run P w1=.ok () w2:=λw1 q g=>⟨{w1 with heap:=w1.heap.setIfInBounds b q},by simp[setObj,Sem.run,g]⟩
  simp only[Instr.next,aH,J,F,O,I,aJ,next_test_false seen T e p A D,j9,dh];generalize z:((if(Array.filter (λm=>decide (m.born<e)) (Array.filter (λi=>!seen.contains i.born) T)).isEmpty=f then #[n]else #[])++Array.map h (Array.filter (λm=>decide (m.born<e)) (Array.filter (λi=>!seen.contains i.born) T)++Array.filter (λm=>decide (m.born≥e)) (Array.filter (λi=>!seen.contains i.born) T)))=L;have N:∃s w1,(w1=d∨w1=d.drew)/\(choose (Question.mapNext L.size)).run P d=.ok s w1/\∀T,(choose (Question.mapNext L.size)).events P d T=T:=by
    by_cases w:L.size<=1
    · exact⟨0,d,Or.inl a,by simp[choose,Sem.run,Question.forced,w],λT=>by simp⟩
    · exact⟨_,d.drew,Or.inr a,by simp only[choose,Sem.run,Question.forced,bA,w,dh,Question.cut];rfl,λT=>by simp⟩
  obtain⟨s,w1,E,B,C⟩:=N;have u:w1.heap[b]?=h (.mapIter (h j) e seen p):=by rcases E with rfl|rfl<;>exact t
  simp only[B,C,aJ];intro i o;have fin:i∈(#[⟨.obj b,l,l⟩,⟨.obj j,l,l⟩,⟨.obj b,f,l⟩]:Array aT):=by
    cases x:L[s]? with
    |none=>rw[x]at o;simp[stuck,Sem.events,Sem.runT]at o;rcases o with g|g<;>simp[g]
    |some q=>
      rw[x]at o;cases q with
      |none=>simp at o;rcases o with g|g<;>simp[g]
      |some m=>
        obtain⟨w2,M⟩:=y w1 (.mapIter (h j) e (seen.push m.born) clock) u;simp[K w1 _ _ u]at o;rcases o with g|g|g<;>simp[g]
  simp at fin;rcases fin with rfl|rfl|rfl<;>simp
def Um(a)(b j e)(seen:Array Nat)(T)(clock)(d)(g:a.heap[b]?=h (.mapIter (h j) e (seen.push d.born) clock))(i:a.heap[j]?=h (.map T clock))(r:d∈T.toList)(s:(T.toList.map (·.born)).Nodup):
    (Instr.entry (.pointer (h ⟨b,0,n⟩))).events P a #[]=#[⟨.obj b,l,l⟩,⟨.obj j,l,l⟩]:=by
  have k:T.find? (·.born==d.born)=h d:=by rw[<-Array.find?_toList];grind[find_born]
  have p:(getObj b).run P a=.ok (.mapIter (h j) e (seen.push d.born) clock) a:=by simp[getObj,Sem.run,g]
  have m:(getObj j).run P a=.ok (.map T clock) a:=by simp[getObj,Sem.run,i]
  have q:∀T,(getObj b).events P a T=T.push ⟨.obj b,l,l⟩:=λT=>by simp only[getObj,Sem.events,Sem.runT,g];rfl
  have o:∀T,(getObj j).events P a T=T.push ⟨.obj j,l,l⟩:=λT=>by simp only[getObj,Sem.events,Sem.runT,i];rfl
  simp only[Instr.entry,aH,p,m,q,o,aJ,Array.back?_push,h0,j9,dh,k];rfl
def kZ(i e:Nat)(b:Array Nat):Z->(Nat->Option Obj)->Prop:=λj a=>∃d:Nat,j=.pointer (h ⟨d,0,n⟩)/\a=λg=>if g=d then h (.mapIter (h i) e b e)else n
def uk(H:Z->(Nat->Option Obj)->Prop)(e:Nat)(b:Array MapEntry)(d:Nat):Prop:=∀g a,H g a->a e=h (.map b d)
variable {r:aj P}
def bb.ee(bP:bb p b)(aE:p[d]?=h (.J H)){g}{T}{s}(i:uk H g T s):b.a.heap[g]?=h (.map T s)/\∃L∈b.l,g∈L.al:=by have e:d<c b.l:=hY;obtain⟨j,a,k,m,o⟩:=bP.box d _ b.l[d] aE (bI e);have:=i _ _ a;grind
def bb.hg(bP:bb p b){k s}{dw}(aE:p[d]?=h (.J (kZ k s dw))):∃a:Nat,b.l[d]?=h ⟨.pointer (h ⟨a,0,n⟩),((b.l[d]?).map (·.al)).getD []⟩/\b.a.heap[a]?=h (.mapIter (h k) s dw s)/\∀L,b.l[d]?=h L->∀e,e∈L.al↔e=a:=by
  have i:d<c b.l:=hY;have j:=bI i;obtain⟨m,⟨a,o,q⟩,g,u,t⟩:=bP.box d _ b.l[d] aE j;refine⟨a,?_,g a _ M,λL r e=>?_⟩
  · rw[j];simp[<-o]
  grind
def g.range{q o I}{w A}(k:t.op=.range q (.tmp o))(ae:t.dst=h I)(W:t.guard=n)(G:fd D t.dst=f)(J:P.underlying q=h (.map w A)){a'}(R:∀b m,bY D p b F m->bb p b->m.eval (.tmp o)=.map (h a')){qI:Nat}{H:Z->(Nat->Option Obj)->Prop}{T}{s}(aE:p[qI]?=h (.J H))(Q:uk H a' T s)(ah:g r D be (.ae all bs::ar) .normal ((I,.n (.aq (.aR (c p))))::F) (p++[.J (kZ a' s #[])])):g r D be (.ae all (t::bs)::ar) .normal F p:=by
  refine g.cI (ι:=Unit) (λ_=>.n (.aq (.aR (c p)))) (λ_=>p++[.J (kZ a' s #[])]) W G ?_ λ_=>by exact ht
  intro b m N i;have K:=R b m N i;obtain⟨x,L,ad,V⟩:=i.ee aE Q;have C:=run_range_map b.a q w A a' T s J x;have E:(Instr.range q (.map (h a'))).events P b.a #[]=#[⟨.obj a',l,l⟩]:=by
    have Y:∀T,(getObj a').events P b.a T=T.push ⟨.obj a',l,l⟩:=λT=>by simp only[getObj,Sem.events,Sem.runT,x];rfl
    have ab:∀t M T,(newObj t).events P M T=T:=λt M T=>by simp
    simp[Instr.range,run_underlying J,MapKept.run_getObj_map x,Y,ab]
  have ag:∀d,b.a.heap.size<=d->∀t,b.u d t=n:=λd e t=>by
    cases j:b.u d t with
    |none=>rfl
    |some aa=>have:=i.block j;omega
  let bi:au:=b.a.alloc (.mapIter (h a') s #[] s);have O:bi.heap.size=b.a.heap.size+1:=by show(b.a.heap.push _).size=_;simp
  have ai:bi.heap[b.a.heap.size]?=h (.mapIter (h a') s #[] s):=lV _ _;obtain⟨z,X⟩:=i.cY (cd:=b.u) (bi:=bi) y (λd e=>iQ _ _ e) (λ_ _ _=>rfl) (λd e t aa j=>by grind) rfl rfl rfl;obtain⟨u,v⟩:=z.b0 (bX:=.J (kZ a' s #[])) (L:=⟨.pointer (h ⟨b.a.heap.size,0,n⟩),[b.a.heap.size]⟩) X rfl i
    ⟨λd=>if d=b.a.heap.size then h (.mapIter (h a') s #[] s)else n,⟨_,rfl,rfl⟩,λd t e=>by grind,λd=>by by_cases S:d=b.a.heap.size<;>simp[S],λd e t=>by grind⟩
    (λd e=>by grind)
  refine⟨(),.value (.pointer (h ⟨b.a.heap.size,0,n⟩)),_,.pointer (h ⟨b.a.heap.size,0,n⟩),?_,.inl a,⟨λbX B=>?_,⟨.pointer (h ⟨b.a.heap.size,0,n⟩),[b.a.heap.size]⟩,?_,a,a⟩,u,v,?_⟩
  · simp[ac,k,K,cH,C,c1,d8];rfl
  · rw[hq (bC _)]at B;simp at B;subst B;rfl
  · show(b.l++_)[c p]?=_
    rw[<-i.len,hq (bC _)];simp
  · exact x6 (dt.of_eq E (.aq (mw ad V))) (by simp[ac,k,K])
def bY.j'{o}(e:look F o=cM aa):∀b a,bY D p b F a->bb p b->a.eval (.tmp o)=aa:=λb a d _=>by have:=d.aH o;rw[e]at this;exact Rd.bd this
inductive sl (T:Array MapEntry) (dw:Array Nat)
  |over (u:∀ai∈T.toList,ai.born∈dw)
  |aq (ai:MapEntry) (u:ai∈T.toList) (jk:ai.born∉dw)
def sl.c9{T}{dw}:sl T dw->z
  |.over _=>.Q [.aq (.c (.bool l))]
  |.aq a _ _=>.Q [.aq (.c (.bool f)),.aq (.v a.key),.aq (.v a.val)]
def sl.a7{T}{dw}:sl T dw->Array Nat
  |.over _=>dw
  |.aq a _ _=>dw.push a.born
def g.next{o X}{ty}(cw:t.op=.next (.tmp o) l)(aD:t.type=ty)(ab:t.dst=h X)(ag:t.guard=n)(K:fd D t.dst=f){qI kj:Nat}(Q:look F o=.n (.aq (.aR kj))){a' s}{dw}(V:p[kj]?=h (.J (kZ a' s dw))){H:Z->(Nat->Option Obj)->Prop}{T}(aE:p[qI]?=h (.J H))(aj:uk H a' T s)(aa:MapKept.Stamped T s)(az:∀b∈T.toList,dW b.key=f/\dW b.val=f)(ao:∀u:sl T dw,g r D be (.ae all bs::ar) .normal ((X,u.c9)::F) (p.set kj (.J (kZ a' s u.a7)))):g r D be (.ae all (t::bs)::ar) .normal F p:=by
  refine g.cI (ι:=sl T dw) (λu=>u.c9) (λu=>p.set kj (.J (kZ a' s u.a7))) ag K ?_ λu=>by rw[ab];exact ao u
  intro i ak ah q;obtain⟨e,j,y,G⟩:=q.hg V;have w:ak.eval (.tmp o)=.pointer (h ⟨e,0,n⟩):=by
    have:=ah.aH o;rw[Q]at this;obtain⟨_,L,U,w,_⟩:=(show cx _ i _ (.aR kj)from this)
    rw[j]at U;cases U;exact w
  obtain⟨W,L,U,aB⟩:=q.ee aE aj;have aw:=b9 j;have ax:=(G _ j e).2 a;have Y:dt i ((Instr.next (.pointer (h ⟨e,0,n⟩)) l t.type).events P i.a #[]):=by
    intro b B;obtain⟨av,S|S⟩:=We i.a t.type e a' s s dw T s y W aa.1 (bC _) b B
    · obtain⟨N,wr,ae⟩:=b;grind[mw]
    · obtain⟨N,wr,ae⟩:=b;grind[mw]
  have aq:p.set kj (.J (kZ a' s dw))=p:=mY;rcases run_next_at (P:=P) i.a t.type e a' s s dw T s y W aa.1 (bC _)with⟨R,C⟩|⟨b,B,w1,O,C⟩
  · have au:∀b∈T.toList,b.born∈dw:=by intro b B;have:=Array.eq_empty_of_size_eq_zero R;unfold leftOf at this;grind[Array.filter_eq_empty_iff]
    refine⟨.over au,.value (.tuple #[.bool l]),i,_,?_,.inl a,⟨[.bool l],a,Rd.bool,v⟩,?_,?_,?_⟩
    · simp[ac,cw,w,cH,C,c1,d8]
    · show bb (p.set kj (.J (kZ a' s dw))) i
      grind
    · show cN p i (p.set kj (.J (kZ a' s dw))) i
      rw[aq];exact .refl _ _
    · exact x6 Y NK
  · have J:b∈T.toList/\b.born∉dw:=by simp[leftOf]at B;grind
    have A:w1.heap=i.a.heap/\w1.os=i.a.os/\w1.tape=i.a.tape/\w1.output=i.a.output:=by rcases O with rfl|rfl<;>exact⟨rfl,rfl,rfl,rfl⟩
    have aA:=q.lt _ aw e ax;have z:e<w1.heap.size:=M;obtain⟨ai,ad⟩:=q.b_ (d:=kj) (j5:=kZ a' s (dw.push b.born)) (cn:=⟨.pointer (h ⟨e,0,n⟩),((i.l[kj]?).map (·.al)).getD []⟩) (bi:=setBlock w1 e (.mapIter (h a') s (dw.push b.born) s)) V j rfl
      (by simp[setBlock,A.1]) (λm k an=>by
        have aN:e≠m:=M;simp[setBlock]
        grind) (λm k=>.inl k)
      ⟨λm=>if m=e then h (.mapIter (h a') s (dw.push b.born) s)else n,⟨e,rfl,rfl⟩,λm t k=>by
        by_cases x:m=e
        · subst x
          simp[dH]at k;cases k;simp[setBlock];grind
        grind,λm=>by
        rw[G _ j m]
        by_cases x:m=e<;>simp[x]⟩ (by simp[setBlock,A.2.1]) (by simp[setBlock,A.2.2.1]) (by simp[setBlock,A.2.2.2])
    obtain⟨E,I⟩:=az b J.1;refine⟨.aq b J.1 J.2,.value (.tuple #[.bool f,b.key,b.val]),_,_,?_,.inl a,⟨[.bool f,b.key,b.val],a,Rd.bool,Rd.val E,Rd.val I,v⟩,ai,ad,?_⟩
    · simp[ac,cw,w,cH,C,c1,d8]
    · exact x6 Y NK
def g.entry{o v}(j:t.op=.entry (.tmp o))(N:t.dst=h v)(R:t.guard=n)(y:fd D t.dst=f){qI kj:Nat}(O:look F o=.n (.aq (.aR kj))){a' s:Nat}{dw:Array Nat}{ai:MapEntry}(E:p[kj]?=h (.J (kZ a' s (dw.push ai.born)))){T:Array MapEntry}(aE:p[qI]?=h (.J H))(J:uk H a' T s)(u:MapKept.Stamped T s)(w:ai∈T.toList){X:z}(I:∀e:a5,bx p e (.tuple #[ai.key,ai.val]) X)(S:g r D be (.ae all bs::ar) .normal ((v,X)::F) p):g r D be (.ae all (t::bs)::ar) .normal F p:=by
  refine g.cI (ι:=Unit) (λ_=>X) (λ_=>p) R y ?_ λ_=>by exact ht
  intro e A C d;obtain⟨k,b,i,M⟩:=d.hg E;have m:A.eval (.tmp o)=.pointer (h ⟨k,0,n⟩):=by
    have:=C.aH o;rw[O]at this;obtain⟨_,L,q,m,_⟩:=(show cx _ e _ (.aR kj)from this)
    rw[b]at q;cases q;exact m
  obtain⟨x,L,q,B⟩:=d.ee aE J;have K:=run_entry_at (P:=P) e.a k a' s dw T s ai i x w u.2.1;have Q:=Um (P:=P) e.a k a' s dw T s ai i x w u.2.1;refine⟨(),.value (.tuple #[ai.key,ai.val]),e,_,?_,.inl a,I e,d,.refl _ _,?_⟩
  · simp[ac,j,m,cH,K,c1,d8]
  · exact x6 (dt.of_eq Q (.fj (mw (b9 b) ((M _ b k).2 a)) (mw q B))) (by simp[ac,j,m])
end
end
inductive fj where
 |nil (x:Option Addr)
 |row (j cap:Nat)
def cX(b:fj)(g:Nat):Z:=match b with
 |.nil d=>.slice d 0 0
 |.row e a=>.slice (h ⟨e,0,n⟩) g a
def tK(bO)(k):dW (cX bO k)=f:=by cases bO<;>rfl
def EF(a:m Z):Nat->m N:=λb=>[.val (a.getD b K)]
section
variable {r:aj P}
def b0.e3{aN}{dE:ι->bH}{ao:ι->m an}(I:∀e g,bY D p e F g->bb p e->∃(b:ι)(a:a5),a.a=e.a/\bY D (ao b) a (dE b) g/\bb (ao b) a/\cN p e (ao b) a)(K:∀b,b0 r D s aN (dE b) (ao b)):b0 r D s aN F p:=by intro e g O d B v o A u t;obtain⟨b,a,N,E,y,x⟩:=I e g O d;have z:=x.too1 d;refine .aU (.of d y N z) ?_;exact K b a g E y B v o A u λC J j w k Q M q i=>t C J j w k Q M q (z.trans i)
def g.gM(d){y:an}(i:ι->an)(u:p[d]?=h y)(t:∀j L,er p j y L->∃k,(∀ao,er ao j (i k) L)/\fE y L (i k) L)(E:∀k,g r D be (.code s::ar) .normal F (p.set d (i k))):g r D be (.code s::ar) .normal F p:=by
 refine b0.e3 (dE:=λ_=>F) (ao:=λk=>p.set d (i k)) (λj M z bP=>?_) E;have O:d<c p:=(cO.1 u).1;have I:d<c j.l:=hY;have A:=bI I;generalize j.l[d]=L at A;obtain⟨k,J,Q⟩:=t j L (bP.box d _ L u A);have w:fk p j (p.set d (i k)) j:=by
  refine⟨λ_ _ _ t=>t,λm o q b e=>?_⟩;by_cases x:d=m
  .subst x;rw[u]at b;cases b;rw[A]at e;cases e;simp_all
  exact⟨o,q,by grind,e,.refl _ _⟩
 have v:cN p j (p.set d (i k)) j:=
  ⟨bC _,λ_ _ _=>rfl,λ_ _ _ t=>t,λ_ _ _ _=>rfl,λL t N C=>.inr ⟨L,t,C⟩,w.box,rfl,rfl,rfl,rfl⟩
 refine⟨k,j,a,⟨z.size,z.defers.imp λ_ B=>B.mono v.ext,λK=>(z.aH K).mono v.ext bP.len⟩,⟨bP.mem,by simp[bP.len],?_,bP.a3,bP.lt,bP.own⟩,v⟩;intro m o q b e;by_cases x:d=m
 .subst x;simp_all
 rw[kC x]at b;exact(bP.box m o q b e).cb w bP.len λ_ _=>⟨a,λ_=>rfl⟩
def g.gy(d)(b:ι->Z->(Nat->Option Obj)->Prop)(i:p[d]?=h (.J H))(q:∀k a,H k a->∃e,b e k a)(j:∀e,g r D be (.code s::ar) .normal F (p.set d (.J (b e)))):g r D be (.code s::ar) .normal F p:=
 g.gM d (λe=>.J (b e)) i (λt L ⟨a,m,o⟩=>let ⟨e,bp⟩:=q _ _ m;⟨e,λ_=>⟨a,bp,o⟩,rfl⟩) j
def g.gN(d){W i}(a:Nat->m N)(x:p[d]?=h (.h W i k T))(J:∀b,b<k->c (a b)=i)(M:∀z b,b<k->∀(j:Nat) q,(a b)[j]?=h q->∃s,(T b)[j]?=h s/\∀o,Rd z o s->Rd z o q)(y:g r D be (.code s::ar) .normal F (p.set d (.h W i k a))):g r D be (.code s::ar) .normal F p:=by
 refine g.gM (ι:=Unit) d (λ_=>.h W i k a) x (λV L v=>⟨(),λC=>?_,λ_=>rfl,bC _⟩) λ_=>y;rcases v with U|⟨E,Z,B,X,t,u,Y,O,S,A,Q⟩
 .exact .inl U
 refine .inr ⟨E,Z,B,X,t,u,Y,O,S,⟨A.len,J,λb e j q w=>?_⟩,Q⟩;obtain⟨s,aa,R⟩:=M V.u b e j q w;obtain⟨o,K,I⟩:=A.rd b e j s aa;exact⟨o,K,R o I⟩
end
def np:N->Bool
 |.int _ _|.bool _|.V _|.bk|.bo|.da|.val _=>f
 |_=>l
def nn:O->Bool
 |.c a=>np a
 |.any=>f
 |_=>l
def yn:m O->Bool
 |[]=>f
 |a::b=>match nn a with|true=>yn b|false=>l
def ve:E1->Bool
 |.aq b=>nn b
 |.agg a=>yn a
def ym:m E1->Bool
 |[]=>f
 |a::b=>match ve a with|true=>ym b|false=>l
def yl:z->Bool
 |.n b=>ve b
 |.Q a=>ym a
 |.any=>f
section
theorem vd{a}{s}(b:np s=f)(d:Rd bB aa s):Rd a aa s:=by
 cases d<;>first|(simp[np]at b;done)|skip
 case int cS=>exact .int cS
 case bool=>exact .bool
 case V cS dq=>exact .V cS dq
 case bk=>exact .bk
 case bo=>exact .bo
 case da=>exact .da
 case val cS=>exact .val cS
def Jw{a}(d:nn a=f)(e:cx p b aa a):cx ao az aa a:=by
 cases a with
 |c g=>exact vd d e
 |any=>exact e
 |_=>simp[nn]at d
def Jy:∀{B:m Z}{a:m O},yn a=f->bN p b B a->bN ao az B a
 |[],[],_,_=>trivial
 |[],_::_,_,d=>d.elim
 |_::_,[],_,d=>d.elim
 |j::B,i::a,e,d=>by
  simp[yn]at e;cases g:nn i with
  |false=>grind
  |true=>simp[g]at e;exact⟨Jw g d.1,Jy e d.2⟩
def CO{o}(a:ve o=f)(d:et p b aa o):et ao az aa o:=by
 cases o with
 |aq j=>exact Jw a d
 |agg i=>obtain⟨B,e,g⟩:=d;exact⟨B,e,Jy a g⟩
def Jx:∀{B:m Z}{a:m E1},ym a=f->eS p b B a->eS ao az B a
 |[],[],_,_=>trivial
 |[],_::_,_,d=>d.elim
 |_::_,[],_,d=>d.elim
 |j::B,i::a,e,d=>by
  simp[ym]at e;cases g:ve i with
  |false=>grind
  |true=>simp[g]at e;exact⟨CO g d.1,Jx e d.2⟩
def Yu{a}(d:yl a=f)(e:bx p b aa a):bx ao az aa a:=by
 cases a with
 |n k=>exact CO d e
 |Q j=>obtain⟨B,g,i⟩:=e;exact⟨B,g,Jx d i⟩
 |any=>trivial
end
def qM:m an->Bool
 |[]=>f
 |.J _::a=>qM a
 |.x::a=>qM a
 |_=>l
def KM:∀{e:m an},qM e=f->∀a∈e,(∃H,a=.J H)∨a=.x
 |[],_,a,aE=>by grind
 |b::g,i,a,aE=>by
  have d:((∃H,b=.J H)∨b=.x)/\qM g=f:=by cases b<;>simp_all[qM]
  rcases fo.1 aE with rfl|aE
  .exact d.1
  exact KM d.2 a aE
def Ah(j:m an)(k:Nat)(q:Z)(o p:Nat)(i:Nat->m N):Prop:=
 ∀e,bb j e->∃L d,e.l[k]?=h L/\(∀a b g,e.u a b=h g->d a b=h g)/\(∀a,a∉L.al->∀b,d a b=e.u a b)/\(∀a b g,d a b=h g->e.a.cell? ⟨a,b,n⟩=h g) /\
  (∀a∈L.al,∀b,e.u a b=n)/\Rd d q (.S l o p i)
section
variable {r:aj P}
def b5.hV{p}{b}{j}:∀{B:m Z}{a:m z}{R:Nat}{e:Z},b5 p b B a->B[R]?=h e->bx p b e j->b5 p b B (a.set R j)
 |[],[],_,_,_,d,_=>by grind
 |[],_::_,_,_,d,_,_=>d.elim
 |_::_,[],_,_,d,_,_=>d.elim
 |o::B,k::a,0,e,d,i,g=>by simp at i;subst i;exact⟨g,d.2⟩
 |o::B,k::a,R+1,e,d,i,g=>⟨d.1,b5.hV (R:=R) d.2 M g⟩
def pT(k:m an)(o g:m z):Prop:=
 ∀e B,bb k e->b5 k e B o->∃(j:Nat->Prop) (d:Mem),(∀a,j a->∃L∈e.l,a∈L.al)/\(∀a b i,e.u a b=h i->d a b=h i)/\(∀a,¬j a->∀b,d a b=e.u a b) /\
  (∀a b i,d a b=h i->e.a.cell? ⟨a,b,n⟩=h i)/\(∀a,j a->∀b,e.u a b=n)/\b5 k {e with u:=d} B g
def pT.refl(p)(bg):pT p bg bg:=λe B b d=>⟨λ_=>False,e.u,λ_ a=>a.elim,λ_ _ _ a=>a,λ_ _ _=>rfl,b.mem,λ_ a=>a.elim,d⟩
def pT.step{bg e}(I:pT p bg e)(o X){s}{i}(Q:e[o]?=h (cM s))(x:Ah p X s i k T):pT p bg (e.set o (ax (.S l i k T))):=by
 classical
 intro r B j y;obtain⟨u,d,aa,R,V,G,O,A⟩:=I r B j y;obtain⟨L,m,C,H,N,U,W,S⟩:=x r j;have q:∀a b g,d a b=h g->(d a b).or (m a b)=h g:=λa b g t=>by grind
 have w:∀a b g,m a b=h g->(d a b).or (m a b)=h g:=λa b g t=>by
  cases D:d a b with
  |none=>grind
  |some z=>
   grind
 refine⟨λa=>u a∨a∈L.al,λa b=>(d a b).or (m a b),M,λa b g t=>q a b g (R a b g t),M,?_,?_,?_⟩
 .intro a b g t;cases D:d a b with
  |none=>grind
  |some z=>grind
 .grind
 have v:fk p {r with u:=d} p {r with u:=λa b=>(d a b).or (m a b)}:=⟨q,λY u L aE C=>⟨u,L,aE,C,.refl _ _⟩⟩
 have K:=A.mono v j.len;obtain⟨Z,F⟩:=b5.get A;have E:o<c B:=M;have J:B[o]?=h s:=by have:=F o;rw[Q,bI E]at this;have:=Rd.bd (show Rd d B[o] (.val s)from this);grind
 exact K.hV J (show bx p {r with u:=λa b=>(d a b).or (m a b)} s (ax (.S l i k T))from Rd.mono w S)
end
def ck(k:av)(j:Nat)(e:fj)(g:Nat)(b:m Z):Z->(Nat->Option Obj)->Prop:=λq d=>q=.nilFunc/\(∀r∈b,dW r=f)/\c b=g*j/\match e with
 |.nil _=>g=0/\d=λ_=>n
 |.row o a=>g<=a/\a<=9223372036854775807/\∃i,c (b++i)=a*j/\d=λp=>if p=o then h (.cells (b++i).toArray k (0,0))else n
def l8(b:Nat)(a:m Z):Nat->m N:=λd=>((a.drop (d*b)).take b).map .val
def M_{i}{ag}(a:c ag=k*i)(bp:e<k):c (l8 i ag e)=i:=by have:e*i+i<=k*i:=FB;simp[l8,a];omega
def M9{i}{ag}{s}(b:(l8 i ag e)[w]?=h s):∃a,ag[e*i+w]?=h a/\s=.val a:=by simp[l8,m',io,p5]at b;grind
def ck.lookup{i cap}{ag}(d:ck W i (.row j cap) k ag aa k8):∃a,c (ag++a)=cap*i/\k8 j=h (.cells (ag++a).toArray W (0,0))/\∀b,(k8 b).isSome=f↔b=j:=by obtain⟨_,_,_,_,_,a,e,g⟩:=d;grind
def Rd.kg{cap i}{ag}(r:∀t∈ag,dW t=f)(d:c ag=k*i)(g:k<=cap)(p:cap<=9223372036854775807)(v:∀o,bB j o=ag[o]?):Rd bB (.slice (h ⟨j,0,n⟩) k cap) (.S l i k (l8 i ag)):=by refine Rd.eH (bB:=bB) (i:=i) (k:=k) (T:=l8 i ag) (B:=ag) (x:=h ⟨j,0,n⟩) (j:=j) (off:=0) (cap:=cap) (q:=l) ⟨d,λs b=>M_ d b,λs b y u e=>?_⟩ bl g p E (λz m w=>by grind);obtain⟨m,a,rfl⟩:=M9 e;exact⟨m,a,.val (r m (b9 a))⟩
section
variable {r:aj P}
def ck.fJ{i d}{bO}{ag}(e:p[d]?=h (.J (ck W i bO k ag)))(T:Nat->m N)(C:∀a,a<k->c (T a)=i/\∀J b g D,(T a)[b]?=h g->ag[a*i+b]?=h D->Rd J D g):Ah p d (cX bO k) i k T:=by
 intro r bP;have ab:=(cO.1 e).1;have X:d<c r.l:=hY;have s:=bI X;generalize r.l[d]=L at s;obtain⟨Q,H,R,F,v⟩:=bP.box d _ L e s;cases bO with
 |nil K=>
  obtain⟨_,_,_,rfl,_⟩:=H;exact⟨L,r.u,s,λ_ _ _ S=>S,λ_ _ _=>rfl,bP.mem,v,Rd.dH⟩
 |row j cap=>
  obtain⟨ai,ae,Z,aa⟩:=H.lookup;obtain⟨ah,G,y,V,O,_⟩:=H;have I:=(F j).2 M
  have Y:=R j _ Z;obtain⟨t,u⟩:=bP.fw (j:=j) (B:=ag) (v j I) (λo ao U=>by
   simp[aL,Y]
   grind)
  refine⟨L,λz o=>if z=j then ag[o]? else r.u z o,s,u,λz aN o=>bm M,t.mem,v,?_⟩;refine Rd.eH (i:=i) (k:=k) (T:=T) (B:=ag) (x:=h ⟨j,0,n⟩) (j:=j) (off:=0) (cap:=cap) (q:=l) ⟨y,λa bp=>(C a bp).1,λa bp b g w=>?_⟩ bl V O E (λak an aj=>by grind);have ad:b<i:=M;have A:a*i+b<c ag:=by rw[y];have:a*i+i<=k*i:=FB;omega
  exact⟨ag[a*i+b],bI A,(C a bp).2 _ b g _ w (bI A)⟩
def ey.fu{i}(C:j4 P t o X W a4)(aa:a4.size=i){bO}{ag}(S:bF F o=cM (cX bO k))(Y:p[d]?=h (.J (ck W i bO k ag))){r9}{dI:Nat->m N}(bn:bF F X=ax (.S r9 i 1 dI)){hX}(bG:c hX=i)(bu:∀bB g (s:Nat) bq,(dI 0)[s]?=h bq->Rd bB g bq->hX[s]?=h g/\dW g=f)(v:(k+1)*a4.bytes<=140737488355328):
  ey P D t F p (λaN:fj=>cM (cX aN (k+1))) λaN=>p.set d (.J (ck W i aN (k+1) (ag++hX))):=by
 intro b aA aJ bP;obtain⟨bV,t2,aW,cc,Z,w,z,a1,G⟩:=C.op;have bj:=(cO.1 Y).1;have aq:d<c b.l:=hY;have J:=bI aq;generalize b.l[d]=L at J;obtain⟨bQ,az,bL,aH,aD⟩:=bP.box d _ L Y J;have a_:=b9 J;have aj:=eL aJ o;rw[S]at aj;have aj:=Rd.bd aj;have R:=eL aJ X;rw[bn]at R;have R:=b7 R;have bM:=az.2.1;have a':=az.2.2.1;have bS:∀j,b.a.heap.size<=j->∀t,b.u j t=n:=λj v t=>by
  cases bk:b.u j t with
  |none=>rfl
  |some g=>have:=bP.block bk;omega
 have mk:∀q x cap,cX bO k=.slice x k cap->cap<k+1->bb (p.map λ_=>.x) {b with u:=q}->(∀e t g,b.u e t=h g->q e t=h g) ->
   Rd q (.slice x k cap) (.S l i k (l8 i ag))->(∀{I},dt {b with u:=q} I->dt b I) ->
   ∃aW av ab g,(ac aA.eval t).run P b.a=.ok av ab.a/\(av=.value g∨(av=.skip/\g=K))/\bx (p.set d (.J (ck W i aW (k+1) (ag++hX)))) ab g (cM (cX aW (k+1)))/\bb (p.set d (.J (ck W i aW (k+1) (ag++hX)))) ab/\cN p b (p.set d (.J (ck W i aW (k+1) (ag++hX)))) ab/\dt b ((ac aA.eval t).events P b.a #[]):=by
  intro q x cap aP r ai aE aF ad;have a2:Rd ({b with u:=q}:a5).u (aA.eval X) (.S r9 a4.size 1 dI):=by rw[aa];exact R.mono aE
  have bp:Rd ({b with u:=q}:a5).u (.slice x k cap) (.S l a4.size k (l8 i ag)):=M;obtain⟨B,u,bo,O,V,bc,f4,f5⟩:=vQ (P:=P) (b:={b with u:=q}) (ty:=t.type) w z a1 G C.elem ai bp a2 r v C.bytes;have f6:=u2 (P:=P) (b:={b with u:=q}) (ty:=t.type) w z a1 G C.elem ai bp a2 r v C.bytes;rw[aa]at O f4;have bD:=O.len;have bt:c ag+i=(k+1)*i:=M;have aM:0<i:=by have:=C.size;omega
  have aG:∀s,s<i->∃g,B[k*i+s]?=h g/\hX[s]?=h g/\dW g=f:=λs bh=>by
   have aS:=O.bG k y;have aV:ce k (l8 i ag) dI k=dI 0:=by simp[ce]
   rw[aV]at aS;obtain⟨g,aZ,a0⟩:=O.rd k y s ((dI 0)[s]'y) M;grind
  have aR:B=ag++hX:=by
   apply p';intro T;by_cases br:T<c ag
   .have w:T / i<k:=sr M;have bz:=ux T i;have aU:=M_ (i:=i) a' w;have bs:ce k (l8 i ag) dI (T / i)=l8 i ag (T / i):=by simp[ce,w]
    have aK:T % i<c (l8 i ag (T / i)):=by rw[aU];exact p6 _ aM
    obtain⟨g,aZ,a0⟩:=O.rd (T / i) y (T % i) ((l8 i ag (T / i))[T % i]) M;obtain⟨bW,bT,bU⟩:=M9 (bI aK);grind[Rd.bd]
   grind
  subst aR;have ao:∀o∈hX,dW o=f:=λo S=>by grind[List.getElem_of_mem]
  let bi:au:=b.a.drew.alloc (.cells (ag++hX++u).toArray W);have bl:bi.heap[b.a.heap.size]?=h (.cells (ag++hX++u).toArray W (0,0)):=lV b.a.drew _;have bC:bi.heap.size=b.a.heap.size+1:=Nr;obtain⟨aw,a8⟩:=bP.b_ (d:=d) (j5:=ck W i (.row b.a.heap.size bo) (k+1) (ag++hX)) (cn:=⟨L.v,[b.a.heap.size]⟩) (bi:=bi) Y J rfl y
   (λj v _=>iQ b.a.drew _ v) (λj v=>by grind)
   ⟨λe=>if e=b.a.heap.size then h (.cells (ag++hX++u).toArray W (0,0))else n,⟨az.1,λo S=>by grind,by grind,V,bc,u,by omega,rfl⟩,λj t v=>by grind,λj=>by by_cases br:j=b.a.heap.size<;>simp[br]⟩ a a a
  refine⟨.row b.a.heap.size bo,.value (.slice (h ⟨b.a.heap.size,0,n⟩) (k+1) bo),_,_,?_,.inl a,Rd.val a,aw,a8,?_⟩
  .rw[ld Z,aj,aP];simp[cH,d8];exact ht
  grind[ld,jj]
 cases bO with
 |nil x=>
  obtain⟨_,_,_,rfl,_⟩:=az;refine mk b.u x 0 a E (by have:=bP.ec;omega) (λ_ _ _ C=>C) Rd.dH (λC=>C)
 |row j cap=>
  obtain⟨u,bJ,an,bf⟩:=az.lookup;obtain⟨aQ,_,_,r,ah,_⟩:=az;have H:=(aH j).2 M;have a6:=bL j _ an;have ae:=aD j H;have bd:=bP.lt L a_ j H;have aI:∀t g,ag[t]?=h g->b.a.cell? ⟨j,t,n⟩=h g:=by intro t g Z;simp[aL,a6];grind
  obtain⟨aB,ak⟩:=bP.fw (j:=j) (B:=ag) ae aI;have ad:∀{I:Array aT},dt {b with u:=λe t=>if e=j then ag[t]? else b.u e t} I->dt b I:=λbg=>
   bg.gG (j:=j) a_ H ak λe t g aj=>by grind
  have aF:=Rd.kg (bB:=λe t=>if e=j then ag[t]? else b.u e t) (j:=j) (cap:=cap) (ag:=ag) bM a' r ah (λt=>by simp);by_cases a3:k+1<=cap
  .have a2:Rd ({b with u:=λe t=>if e=j then ag[t]? else b.u e t}:a5).u (aA.eval X) (.S r9 a4.size 1 dI):=by rw[aa];exact R.mono ak
   obtain⟨A,O,V⟩:=DV (P:=P) (b:={b with u:=λe t=>if e=j then ag[t]? else b.u e t}) (ty:=t.type) (k:=k) (j:=j) (cap:=cap) w z a1 G C.elem aB a6 M a2 a3;have f6:=B_ (P:=P) (b:=b) (ty:=t.type) (k:=k) (j:=j) (cap:=cap) w z a1 G C.elem bP a6 M (o:=aA.eval X) (r9:=r9) (dI:=dI) M a3 a_ H (λt _=>ae t);rw[aa]at O V;have aO:c A=i:=by have:=O.len;omega
   have bE:=O.bG 0 y;have aG:∀s,s<i->∃g,A[s]?=h g/\hX[s]?=h g/\dW g=f:=λs bh=>by obtain⟨g,aZ,a0⟩:=O.rd 0 y s ((dI 0)[s]'y) (bI y);grind
   have bK:A=hX:=mY;subst bK;have ao:∀o∈A,dW o=f:=λo S=>by grind[List.getElem_of_mem]
   have bw:k*i+i<=cap*i:=by rw[<-o4];exact gX _ a3
   have bH:i<=c u:=M;have bN:((ag++u).take (k*i)++A++(ag++u).drop (k*i+c A))=ag++A++u.drop i:=by rw[<-a',aO];simp
   rw[bN]at V;have bm:(b.a.setRow j (ag++A++u.drop i).toArray).heap[j]?=h (.cells (ag++A++u.drop i).toArray W (0,0)):=setRow_heap b.a j _ _ W _ a6;have ar:∀e,e≠j->(b.a.setRow j (ag++A++u.drop i).toArray).heap[e]?=b.a.heap[e]?:=λe aX=>setRow_other b.a j e _ aX;obtain⟨aw,a8⟩:=bP.b_ (d:=d) (j5:=ck W i (.row j cap) (k+1) (ag++A)) (cn:=L) (bi:=b.a.setRow j (ag++A++u.drop i).toArray) Y J rfl E
    (λe aX bR=>ar e M) (λe aX=>.inl aX)
    ⟨λe=>if e=j then h (.cells (ag++A++u.drop i).toArray W (0,0))else n,⟨aQ,λo S=>by grind,by grind,a3,ah,u.drop i,by grind,rfl⟩,λe t aX=>by grind,λe=>by grind⟩ a a a
   refine⟨.row j cap,.value (.slice (h ⟨j,0,n⟩) (k+1) cap),_,_,?_,.inl a,Rd.val a,aw,a8,?_⟩
   .rw[ld Z,aj];simp only[cH,d8,cX];exact ht
   rw[ld Z,aj];exact jj f6
  exact mk _ (h ⟨j,0,n⟩) cap a y aB ak aF ad
def g.fu{i}(C:j4 P t o X W a4)(I:a4.size=i){w}(B:t.dst=h w)(J:t.guard=n)(M:fd D t.dst=f){bO}{ag}(K:bF F o=cM (cX bO k))(j:p[d]?=h (.J (ck W i bO k ag))){s}{b:Nat->m N}(E:bF F X=ax (.S s i 1 b)){hX}(z:c hX=i)(A:∀y u (x:Nat) v,(b 0)[x]?=h v->Rd y u v->hX[x]?=h u/\dW u=f)(e:(k+1)*a4.bytes<=140737488355328)(q:∀a:fj,g r D be (.ae all bs::ar) .normal ((w,cM (cX a (k+1)))::F) (p.set d (.J (ck W i a (k+1) (ag++hX))))):g r D be (.ae all (t::bs)::ar) .normal F p:=
 g.cI (ι:=fj) (λa=>cM (cX a (k+1))) (λa=>p.set d (.J (ck W i a (k+1) (ag++hX)))) J M (.fu C I K j E z A e) λa=>by rw[B];exact q a
def g.jx(q)(W)(i){w}(J:look F q=ax (.S f w 0 T))(u:∀e:fj,g r D be (.code s::ar) .normal ((q,cM (cX e 0))::F) (p++[.J (ck W i e 0 [])])):g r D be (.code s::ar) .normal F p:=by
 refine b0.e3 (λy K j b=>?_) u;have x:=j.aH q;rw[J]at x;obtain⟨d,v,B,I,_,_,k,_,_⟩:=(b7 x).b1;have k:=k a;subst k;obtain⟨C,m⟩:=b.b0 (bX:=.J (ck W i (.nil d) 0 [])) (L:=⟨.nilFunc,[]⟩) (.refl _ _) rfl b ⟨λ_=>n,⟨rfl,by simp,by simp,rfl,rfl⟩,by simp,by simp,by simp⟩ E;refine⟨.nil d,{y with l:=y.l++[⟨.nilFunc,[]⟩]},rfl,⟨j.size,j.defers.imp λ_ o=>o.mono m.ext,λz=>?_⟩,C,m⟩;simp only[look];cases t:af q z with
 |false=>exact(j.aH z).mono m.ext b.len
 |true=>
  have A:=di t;subst A;show Rd _ _ _;rw[I];exact Rd.val a
def g.iB(q d){i}{bO}{ag}(t:Nat->m N)(ae:look F q=cM (cX bO k))(w:p[d]?=h (.J (ck W i bO k ag)))(Z:∀E,E<k->c (t E)=i/\∀X M s V,(t E)[M]?=h s->ag[E*i+M]?=h V->Rd X V s)(K:g r D be (.code s::ar) .normal ((q,ax (.S l i k t))::F) (p.set d .x)):g r D be (.code s::ar) .normal F p:=by
 refine g.aU (λy aj C e=>?_) K;obtain⟨L,u,T,R,Q,ad,O,ai⟩:=ck.fJ w t Z y e;have Y:=(cO.1 w).1;have S:=C.aH q;rw[ae]at S;have z:=Rd.bd S;have B:fk p y (p.set d .x) {y with u:=u}:=by
  refine⟨R,λo bX cn b lS=>?_⟩;by_cases v:d=o
  .subst v;rw[w]at b;cases b;exact⟨.x,cn,by grind,lS,a⟩
  exact E4
 have x:cN p y (p.set d .x) {y with u:=u}:=by refine⟨bC _,λ_ _ _=>rfl,R,λA _ J ab=>Q A (J L (b9 T)) ab,λL aa A j=>.inr ⟨L,aa,j⟩,B.box,rfl,rfl,rfl,rfl⟩
 refine⟨{y with u:=u},rfl,⟨C.size,C.defers.imp λ_ I=>I.mono x.ext,λU=>?_⟩,⟨ad,by simp[e.len],?_,e.a3,e.lt,e.own⟩,x⟩
 .simp only[look];cases j:af q U with
  |false=>exact(C.aH U).mono x.ext e.len
  |true=>
   have v:=di j;subst v;show Rd _ _ _;grind
 intro o bX cn b lS;by_cases v:d=o
 .subst v;rw[im Y]at b;cases b;trivial
 rw[kC v]at b;exact(e.box o bX cn b lS).cb B e.len λA j=>⟨a,Q A λah=>v (e.a3 d o L cn T lS A ah j)⟩
end
structure eg(i k:Nat)(T:Nat->m N)(ag:m Z):Prop where
 len:c ag=k*i
 ek:∀e,e<k->c (T e)=i
 bX:∀e,e<k->∀w s,(T e)[w]?=h s->∃o,ag[e*i+w]?=h o/\∀bB,Rd bB o s
def eg.rd{i}{ag}(m:eg i k T ag):∀a,a<k->c (T a)=i/\∀bB e d j,(T a)[e]?=h d->ag[a*i+e]?=h j->Rd bB j d:=λa b=>
 ⟨m.ek a b,λbB e d j g q=>by obtain⟨r,o,p⟩:=m.bX a b e d g;grind⟩
def MN(b:Z):O->O
 |.r 0 _ _ _=>.v b
 |a=>a
def Ez(d:Z):E1->E1
 |.aq a=>.aq (MN d a)
 |b=>b
def EA(a:Z):m E1->m E1
 |[]=>[]
 |b::d=>Ez a b::EA a d
def MO(b:Z):z->z
 |.n d=>.n (Ez b d)
 |.Q a=>.Q (EA b a)
 |.any=>.any
def rU(d:Nat):O->Bool
 |.r 0 _ b _=>af b d
 |a=>nn a
def vA(d:Nat):E1->Bool
 |.aq a=>rU d a
 |b=>ve b
def vB(a:Nat):m E1->Bool
 |[]=>f
 |b::d=>match vA a b with|true=>vB a d|false=>l
def Dq(b:Nat):z->Bool
 |.n d=>vA b d
 |.Q a=>vB b a
 |.any=>f
section
variable {i:Nat}{L:Loc}
def aeh(u:b.l[0]?=h L){e}(d:rU k e=f)(j:cx [an.r W i k T] b aa e):cx ao az aa (MN L.v e):=by
 cases e with
 |c x=>exact vd d j
 |any=>exact j
 |r q v w o=>
  cases q with
  |zero=>
   obtain⟨t,_,g⟩:=j;have g:=g W i k T a;have s:=di d;obtain⟨r,p,m⟩:=g.2 s.symm;rw[u]at p;cases p;show Rd _ _ _;rw[m];exact .val (m▸t.cell)
  |succ q=>simp[rU,nn]at d
 |ptr=>simp[rU,nn]at d
 |aR=>simp[rU,nn]at d
 |R=>simp[rU,nn]at d
def MQ(g:b.l[0]?=h L){o}(d:vA k o=f)(e:et [an.r W i k T] b aa o):et ao az aa (Ez L.v o):=by
 cases o with
 |aq j=>exact aeh g d e
 |agg a=>exact CO (o:=.agg a) d e
def MR(g:b.l[0]?=h L):∀{B:m Z}{a:m E1},vB k a=f->eS [an.r W i k T] b B a->eS ao az B (EA L.v a)
 |[],[],_,_=>trivial
 |[],_::_,_,d=>d.elim
 |_::_,[],_,d=>d.elim
 |p::B,o::a,e,d=>by
  simp[vB]at e;cases j:vA k o with
  |false=>grind
  |true=>simp[j]at e;exact⟨MQ g j d.1,MR g e d.2⟩
def MP(d:b.l[0]?=h L){a}(e:Dq k a=f)(g:bx [an.r W i k T] b aa a):bx ao az aa (MO L.v a):=by
 cases a with
 |n p=>exact MQ d e g
 |Q o=>obtain⟨B,j,m⟩:=g;exact⟨B,j,MR d e m⟩
 |any=>trivial
end
def zn:m ResultVar->Bool
 |[]=>f
 |.tmp _::a=>zn a
 |.cell _ _::_=>l
def MT{P}{x}:∀{rs:m ResultVar},zn rs=f->∃B,(∀a,(rs.mapM (ib x)).run P a=Result.ok B a)/\dB P (rs.mapM (ib x))
 |[],_=>⟨[],by simp,by rw[List.mapM_nil];exact .pure⟩
 |.tmp i::g,e=>by
  obtain⟨B,b,d⟩:=MT (P:=P) (x:=x) (rs:=g) e;refine⟨x.tmps.getD i K::B,λa=>?_,?_⟩
  .simp only[o6,cH,ib,d8,c1,b]
  rw[o6];exact .bind .pure λ_=>.bind d λ_=>.pure
def mc.tmp{k}{fn}{hv}(s:mc P k hv aa b)(F:P.funcs[k]?=h fn)(C:zn fn.results.toList=f)(p:∀q t u,b.u q t=h u->b.a.cell? ⟨q,t,n⟩=h u):mc P k hv aa az:=by
 obtain⟨m,o,D,z,d,A,v⟩:=s;have g:d=fn:=M;subst g;let x:Act:={tmps:=hv.tmps,defers:=[]}
 obtain⟨B,k1,w⟩:=MT (P:=P) (x:=x) C;have i:∀a,(d.results.mapM (ib x)).run P a=Result.ok B.toArray a:=λa=>by grind[Array.mapM_eq_mapM_toList,Sem.run_map,Go.Result.andThen_ok]
 have e:∀a,(results d hv.tmps).run P a=.ok (if s:B.toArray.size=1 then B.toArray[0]else .tuple B.toArray) a:=λa=>by unfold results;rw[cH];refine(eK (λE=>Result.andThen E _) (i a)).trans ?_;simp
 have j:dB P (results d hv.tmps):=by
  unfold results;have g:dB P (d.results.mapM (ib x)):=by rw[w7];exact .map w
  exact .bind g λ_=>.pure
 have r:=(v b.a p).1;rw[e]at r;cases r;exact⟨m,o,D,z,d,A,λa _=>⟨e a,λg y=>by rw[j a #[]]at y;grind⟩⟩
def Y.thaw{aO:aj P}[aO.b']{aT}{args}{res}{i}(A:Y aO aT args [] res [.r W i k T]){fn}(ak:P.funcs[aT]?=h fn)(ax:zn fn.results.toList=f)(bb:Dq k res=f)(aN:∀x,x<k->c (T x)=i/\∀aQ∈T x,np aQ=f):
  bk (ι:={S:fj×m Z // eg i k T S.2}) aO aT args [] (λS=>MO (cX S.1.1 k) res) (λS=>[.J (ck W i S.1.1 k S.1.2)]):=by
 refine⟨A.1,λaB B a2 F bq aS ae=>A.2 aB B a2 F bq aS λX bj az au w b d=>?_⟩;have a8:aB.l=[]:=jA F.len;have aZ:c az.l=1:=b.len;obtain⟨L,ba⟩:∃L,az.l=[L]:=by
  match afc:az.l with
  |[L]=>grind
  |[]=>grind
  |_::_::_=>grind
 have aP:az.l[0]?=h L:=M;obtain⟨ag,ah⟩:=b.box 0 _ L rfl aP;rcases ah with⟨⟨bd,aw⟩,q⟩|⟨j,cap,cells,ad,O,ai,bA⟩
 .subst aw;obtain⟨bc,cap,bl,a4,aV,bf,aA,_⟩:=q.b1;have G:cap=0:=aA a;subst G;let z:a5:={az with l:=[⟨.nilFunc,[]⟩]}
  have aW:eW az z:=⟨rfl,λ_ _ _ A=>A,λ_ _ _=>rfl,b.mem,λj D=>by grind⟩
  have aK:eg i 0 T []:=⟨by simp,λx s=>by omega,λx s=>by omega⟩
  refine .aU aW (ae ⟨(.nil bc,[]),aK⟩ X bj z (au.tmp ak ax b.mem) ?_ ?_ ?_)
  .have:=MP (ao:=[an.J (ck W i (.nil bc) 0 [])]) (az:=z) aP bb w;rw[a4]at this;exact this
  .refine⟨b.mem,a,λK aM p aE e=>?_,?_,by grind,λj D=>⟨(b.own j D).1,by grind⟩⟩
   .cases K with
    |zero=>cases aE;cases e;exact⟨λ_=>n,⟨a,by simp,by simp,a,a⟩,by simp,by simp,by simp⟩
    |succ K=>grind
   grind
  refine⟨d.size,d.a6,d.mem,d.bE,λp e j D=>?_,λK aM p aE=>by grind,d.os,d.tape,d.output,d.own⟩;grind
 .subst ad;have a_:j∈(⟨.slice (h ⟨j,0,n⟩) k cap,[j]⟩:Loc).al:=E;have aI:aB.a.heap.size<=j:=by
   rcases d.bT _ M j a_ with aa|⟨bo,aa,_⟩
   .exact aa
   grind
  have aU:j<az.a.heap.size:=b.lt _ M j a_;obtain⟨bw,aR,C,br,bh,bp,_,ab,a0⟩:=ag.b1;cases br;have a':c C=k*i:=ab.len;have a6:∀v U,C[v]?=h U->cells[v]?=h U:=λv U J=>by obtain⟨bx,a9,aH,bu⟩:=a0 v U J;cases aH;have:=b.mem _ _ _ bu;simp[aL,O]at this;simpa using this
  have bg:k*i<=c cells:=by rw[ai];exact gX _ bh
  have aJ:cells.take (k*i)=C:=mY;have a3:C++cells.drop (k*i)=cells:=FD;have aK:eg i k T C:=by refine⟨a',λx s=>(aN x s).1,λx s bz aQ I=>?_⟩;obtain⟨U,R,aF⟩:=ab.rd x s bz aQ I;grind[vd]
  have H:∀aG∈C,dW aG=f:=λaG a7=>by
   obtain⟨v,J,rfl⟩:=hG a7;have aX:0<i:=M;have s:v / i<k:=sr M;have bs:v / i*i+v % i=v:=ux v i;have I:v % i<c (T (v / i)):=by rw[(aN _ s).1];exact p6 _ aX
   obtain⟨U,R,aF⟩:=aK.bX _ s _ _ (bI I);rw[bs,bI J]at R;cases R;exact(aF aB.u).cell
  have bn:∀g t o,aB.u g t=h o->g≠j:=λg t o av aH=>by have:=F.block av;omega
  let V:Mem:=λg t=>if g=j then n else az.u g t;let Q:a5:={az with l:=[],own:=λaG=>az.own aG∨aG=j}
  let aD:a5:={Q with u:=V}
  let z:a5:={az with l:=[⟨.nilFunc,[j]⟩],u:=V}
  have N:∀g t o,V g t=h o->az.u g t=h o:=λg t o r=>by grind
  have ar:eW az Q:=⟨rfl,λ_ _ _ A=>A,λ_ _ _=>rfl,b.mem,λg u=>by
   rcases u with(u|u)|⟨p,e,_⟩
   .grind
   .exact .inr ⟨_,by rw[ba];simp;rfl,by grind⟩
   grind⟩
  have aq:nU Q aD:=⟨rfl,rfl,rfl,N,λg t o r=>by grind⟩
  have bt:eW aD z:=⟨rfl,λ_ _ _ A=>A,λ_ _ _=>rfl,λg t o r=>b.mem _ _ _ (N _ _ _ r),λg u=>by grind⟩
  refine .aU ar (.b2 aj.b'.ok aq (.aU bt (ae ⟨(.row j cap,C),aK⟩ X bj z (au.tmp ak ax b.mem) ?_ ?_ ?_)))
  .exact MP (L:=⟨.slice (h ⟨j,0,n⟩) k cap,[j]⟩) aP bb w
  .refine⟨λg t o r=>b.mem _ _ _ (N _ _ _ r),a,λK aM p aE e=>?_,?_,λp e g u=>?_,λg u=>⟨(b.own g u).1,λp e=>?_⟩⟩
   .cases K with
    |zero=>
     cases aE;cases e;refine⟨λg=>if g=j then h (.cells (C++cells.drop (k*i)).toArray W (0,0))else n,⟨a,H,a',bh,bp,cells.drop (k*i),M,a⟩,λg t u=>M,λg=>?_,λg u t=>?_⟩
     .by_cases aH:g=j<;>simp[aH]
     grind
    |succ K=>grind
   .grind
   .grind
   simp[z]at e;subst e;have:=(b.own g u).2 _ (by rw[ba];simp;rfl);grind
  refine⟨d.size,d.a6,λg t o r=>?_,λg u a1 t=>?_,λp e g u=>?_,λK aM p aE=>by grind,d.os,d.tape,d.output,d.own⟩
  .simp only[z,V,bm (bn g t o r)];exact d.mem _ _ _ r
  .have:g≠j:=y;simp[z,V,bm this];exact d.bE g u a1 t
  grind
section
variable {r:aj P}
def g.iN{d:Prop}(j:∀b,bb p b->d)(k:d->g r D be (.code s::ar) .normal F p):g r D be (.code s::ar) .normal F p:=
 λb e i a=>k (j b a) b e i a
def g.fB{d:Prop}(j:∀b,bb p b->d)(k:d->g r D be (.ae all bs::ar) .normal F p):g r D be (.ae all bs::ar) .normal F p:=
 λb e i a=>k (j b a) b e i a
def ck.len{W}{m e d:Nat}{bO}{ag}(g:p[d]?=h (.J (ck W m bO e ag)))(b)(bP:bb p b):c ag=e*m/\e<=9223372036854775807/\(0<e->∃j a,bO=.row j a)/\∀i,bO=.nil i->e=0:=by
 have o:d<c b.l:=hY;obtain⟨q,k,_⟩:=bP.box d _ _ g (bI o);cases bO with
 |nil i=>obtain⟨_,_,r,rfl,_⟩:=k;grind
 |row j a=>obtain⟨_,_,r,s,t,_⟩:=k;grind
def g.jl(aR:bn P ad)(E:Nat){e}{eJ}{i}{bO}{ag}(cw:t.op=.call {callee:=.builtin .len,args:=#[o],argTypes:=dp})(M:dp[0]?=h q)(s:bZ ad q=h e)(I:e.desc=.slice eJ)(O:bF F o=cM (cX bO k))(u:p[E]?=h (.J (ck W i bO k ag)))(N:t.guard=n)(w:fd D t.dst=f)(v:g r D be (.ae all bs::ar) .normal (fT t.dst (ax (.int .i64 k)) F) p):g r D be (.ae all (t::bs)::ar) .normal F p:=by
 refine g.cI (ι:=Unit) (λ_=>ax (.int .i64 k)) (λ_=>p) N w (λm x J j=>?_) λ_=>v;obtain⟨_,z,_,K⟩:=ck.len u m j;have ae:=eL J o;rw[O]at ae;have ae:=Rd.bd ae;have A:=(aR q e s).run_underlying (Q:=m.a);rw[I]at A;have C:dp[0]?=h q:=M;have y:∃d b,cX bO k=.slice d k b:=by
  cases bO with
  |nil d=>rw[K d rfl];exact⟨d,0,a⟩
  |row R b=>exact⟨_,b,rfl⟩
 obtain⟨d,b,B⟩:=y;rw[B]at ae;refine⟨(),.value (.int .i64 k),m,.int .i64 k,Q7,.inl a,Rd.int cQ,j,.refl _ _,?_⟩;have:(ac x.eval t).events P m.a #[]=#[]:=Q7;rw[this];exact .nil
def vc:m O->Bool
 |[]=>f
 |.c b::a=>match np b with|true=>vc a|false=>l
 |_=>l
def m7(B:m Z)(a:m O):Prop:=c B=c a/\∀(d:Nat)b,a[d]?=h (O.c b)->∃e,B[d]?=h e/\∀g,Rd g e b
theorem m7.of{p}{b}:∀{B:m Z}{d:m O},vc d=f->bN p b B d->m7 B d
 |[],[],_,_=>⟨rfl,λj o e=>by grind⟩
 |[],_::_,_,g=>g.elim
 |_::_,[],_,g=>g.elim
 |s::B,.c t::d,e,g=>by
  simp[vc]at e;cases k:np t with
  |false=>grind
  |true=>
   simp[k]at e;obtain⟨q,r⟩:=m7.of e g.2;refine⟨by grind,λj o i=>?_⟩;cases j with
   |zero=>simp at i;subst i;exact⟨s,a,λu=>vd k g.1⟩
   |succ j=>grind
 |_::_,.ptr _ _::_,e,_=>by exact cQ
 |_::_,.r _ _ _ _::_,e,_=>by exact cQ
 |_::_,.aR _::_,e,_=>by exact cQ
 |_::_,.R _ _::_,e,_=>by exact cQ
 |_::_,.any::_,e,_=>by exact cQ
theorem bN.gn{p}{b}:∀{B:m Z}{d:m O},bN p b B d->∀g∈B,AM.dW g=f
 |[],[],_,g,e=>by grind
 |[],_::_,a,_,_=>a.elim
 |_::_,[],a,_,_=>a.elim
 |j::B,i::d,a,g,e=>by
  rcases fo.1 e with rfl|e
  .exact cx.cell a.1
  exact bN.gn a.2 g e
def ey.eN(aR:bn P ad)(d){i cap}{ag}{new}{e}(ao:t.op=.store q o X)(Q:bZ ad q=h e)(R:bF F o=cM (.pointer (h ⟨j,off,n⟩)))(ae:mo (bF F X)=h new)(V:c new=e.size)(O:vc new=f)(w:p[d]?=h (.J (ck W i (.row j cap) k ag)))(Y:off+c new<=c ag):
  ey P D t F p (ι:={B:m Z // m7 B new}) (λ_=>.any) (λB=>p.set d (.J (ck W i (.row j cap) k (ag.take off++B.1++ag.drop (off+c B.1))))):=by
 intro s u J bP;have x:=eL J o;rw[R]at x;have x:=Rd.bd x;have N:=uT ae (eL J X);have U:d<c p:=(cO.1 w).1;have aA:d<c s.l:=hY;have S:=bI aA;generalize s.l[d]=L at S;obtain⟨aG,C,aL,aE,I⟩:=bP.box d _ L w S;obtain⟨r,aw,aN,T⟩:=ck.lookup C;obtain⟨aF,aO,av,G,aD,_⟩:=C;have ak:j∈L.al:=(aE j).2 M;have ah:=aL j _ aN;let B:=(u.eval X).cells.toList;have an:m7 B new:=m7.of O N;have au:c B=c new:=an.1;have ax:off+0+c B<=(ag++r).toArray.size:=M;have aj:=run_storeCells_at P j off W B 0 (ag++r).toArray s.a ah ax N.cell;simp only[j']at aj;have az:(ag++r).take off++B++(ag++r).drop (off+c B)=(ag.take off++B++ag.drop (off+c B))++r:=M;rw[az]at aj;have ab:c (ag.take off++B++ag.drop (off+c B))=c ag:=M;have aa:=setRow_heap s.a j (ag++r).toArray ((ag.take off++B++ag.drop (off+c B))++r).toArray W (0,0) ah;have z:∀g,g≠j->(s.a.setRow j ((ag.take off++B++ag.drop (off+c B))++r).toArray).heap[g]?=s.a.heap[g]?:=λg A=>setRow_other s.a j g _ A;obtain⟨ai,t2⟩:=bP.b_ (d:=d) (j5:=ck W i (.row j cap) k (ag.take off++B++ag.drop (off+c B))) (cn:=L) (bi:=s.a.setRow j ((ag.take off++B++ag.drop (off+c B))++r).toArray) w S rfl E
  (λg A aK=>z g M) (λg A=>.inl A)
  ⟨λg=>if g=j then h (.cells ((ag.take off++B++ag.drop (off+c B))++r).toArray W (0,0))else n,⟨aF,λo R=>by grind[bN.gn],by grind,G,aD,r,by grind,rfl⟩,λg t A=>by simp_all,λg=>by simp_all⟩ a a a
 have H:(u.eval X).cells.size=e.size:=M;refine⟨⟨B,an⟩,.skip,_,K,?_,.inr ⟨a,a⟩,v,ai,t2,?_⟩
 .have ar:(storeCells ⟨j,off,n⟩ (u.eval X).cells.toList).run P s.a=_:=aj;simp[ac,ao,x,Instr.storeAt,Instr.sureAddr,storeVar,(aR q e Q).bb,H,ar]
 intro y b;have aI:ac u.eval t=(do storeVar q ⟨j,off,n⟩ (u.eval X);pure .skip):=by simp[ac,ao,x,Instr.storeAt,Instr.sureAddr]
 rw[aI]at b;have aB:y∈(storeCells ⟨j,off,n⟩ (u.eval X).cells.toList).events P s.a #[]:=by
  simp[storeVar,aH,(aR q e Q).bb,H,aJ,events_sizeOf,dZ,hr,dh,cH,c1,Sem.events_pure]at b;generalize(storeCells ⟨j,off,n⟩ (u.eval X).cells.toList).run P s.a=aM at b;cases aM with
  |ok aQ bi=>simpa using b
  |halt o bi=>simpa using b
 rcases nh (u.eval X).cells.toList 0 (ag++r).toArray s.a #[] ah ax N.cell y aB with aq|⟨aP,_,_,rfl⟩
 .grind
 exact og (b9 S) ak (I j ak _)
def g.eN{ad}(aR:bn P ad)(d){q}{o X}{W}{i k j cap off}{ag}{new}{e}(x:t.op=.store q o X)(a:bZ ad q=h e)(z:bF F o=cM (.pointer (h ⟨j,off,n⟩)))(w:mo (bF F X)=h new)(u:c new=e.size)(v:vc new=f)(b:p[d]?=h (.J (ck W i (.row j cap) k ag)))(s:off+c new<=c ag)(y:t.guard=n)(A:fd D t.dst=f)(m:∀B,m7 B new->g r D be (.ae all bs::ar) .normal (fT t.dst .any F) (p.set d (.J (ck W i (.row j cap) k (ag.take off++B++ag.drop (off+c B)))))):g r D be (.ae all (t::bs)::ar) .normal F p:=
 g.cI _ _ y A (ey.eN aR d x a z w u v b s) λB=>m B.1 B.2
def g.swap(e w){j k:Z->(Nat->Option Obj)->Prop}(au:e≠w)(y:p[e]?=h (.J j))(A:p[w]?=h (.J k))(K:∀T q,j T q->T=.nilFunc)(ak:∀T q,k T q->T=.nilFunc)(V:g r D be (.code s::ar) .normal F ((p.set e (.J k)).set w (.J j))):g r D be (.code s::ar) .normal F p:=by
 refine g.aU (λo ax aa bP=>?_) V;have N:e<c p:=(cO.1 y).1;have O:w<c p:=(cO.1 A).1;have an:e<c o.l:=hY;have aq:w<c o.l:=hY;obtain⟨x,ad⟩:∃L,o.l[e]?=h L:=⟨_,bI an⟩;obtain⟨C,ag⟩:∃L,o.l[w]?=h L:=⟨_,bI aq⟩;have z:=bP.box e _ x y ad;have ab:=bP.box w _ C A ag;have aw:x.v=.nilFunc:=by obtain⟨q,G,_⟩:=z;grind
 have H:C.v=.nilFunc:=by obtain⟨q,G,_⟩:=ab;grind
 let m:a5:={o with l:=(o.l.set e C).set w x}
 have ae:∀b,((p.set e (.J k)).set w (.J j))[b]?=if b=w then h (.J j)else if b=e then h (.J k)else p[b]?:=λb=>by grind
 have W:∀b,m.l[b]?=if b=w then h x else if b=e then h C else o.l[b]?:=λb=>by grind
 have Y:∀L∈m.l,L∈o.l:=λL i=>by grind
 have t:fk p o ((p.set e (.J k)).set w (.J j)) m:=by
  refine⟨λ_ _ _ J=>J,λb U L aE i=>?_⟩;rw[ae,W];by_cases v:b=w
  .subst v;rw[A]at aE;cases aE;rw[ag]at i;cases i;exact⟨.J j,x,by simp,by simp,by show x.v=_;grind⟩
  by_cases Q:b=e
  .subst Q;rw[y]at aE;cases aE;rw[ad]at i;cases i;exact⟨.J k,C,by simp[v],by simp[v],by show C.v=_;grind⟩
  exact⟨U,L,by grind,by grind,.refl _ _⟩
 have X:cN p o ((p.set e (.J k)).set w (.J j)) m:=by exact⟨bC _,λ_ _ _=>rfl,λ_ _ _ J=>J,λ_ _ _ _=>rfl,λL J u d=>.inr ⟨L,Y L J,d⟩,t.box,rfl,rfl,rfl,rfl⟩
 refine⟨m,a,⟨aa.size,aa.defers.imp λ_ K=>K.mono t,λao=>(aa.aH ao).mono t bP.len⟩,⟨bP.mem,by simp[m,bP.len],?_,?_,λL i u d=>bP.lt L (Y L i) u d,λu d=>⟨(bP.own u d).1,λL i=>(bP.own u d).2 L (Y L i)⟩⟩,X⟩
 .intro b U L aE i;rw[ae]at aE;rw[W]at i;split at aE
  .rename_i v;rw[br v]at i;cases aE;cases i;exact z
  rename_i v;rw[bm v]at i;split at aE
  .rename_i Q;rw[br Q]at i;cases aE;cases i;exact ab
  rename_i Q;rw[bm Q]at i;exact(bP.box b U L aE i).cb t bP.len λu d=>⟨a,λ_=>rfl⟩
 intro b B E I R S u d M;rw[W]at R S;have key:∀b L,(if b=w then h x else if b=e then h C else o.l[b]?)=h L->o.l[if b=w then e else if b=e then w else b]?=h L:=λb L az=>by grind
 have:=bP.a3 _ _ E I (key b E R) (key B I S) u d M;by_cases ah:b=w<;>by_cases ai:B=w<;>by_cases aj:b=e<;>by_cases av:B=e<;>simp_all
def g.ju(aR:bn P ad){e}{H T}(aB:t.op=.makeSlice q o X)(ag:bZ ad q=h e)(aK:e.desc=.slice W)(aa:bZ ad W=h a4)(aj:bF F o=ax (.int H k))(ak:bF F X=ax (.int T k))(j:k*a4.bytes<=140737488355328)(aT:k<=140737488355328)(ae:t.guard=n)(ab:fd D t.dst=f)(ao:∀A d,g r D be (.ae all bs::ar) .normal (fT t.dst (cM (cX (.row A k) k)) F) (p++[.J (ck W a4.size (.row A k) k d)])):g r D be (.ae all (t::bs)::ar) .normal F p:=by
 refine g.cI (ι:=Nat×m Z) (λw=>cM (cX (.row w.1 k) k)) (λw=>p++[.J (ck W a4.size (.row w.1 k) k w.2)]) ae ab (λb U aA s=>?_) λw=>ao w.1 w.2;have J:=eL aA o;rw[aj]at J;have J:=b7 J;generalize aw:U.eval o=aL at J;cases J;have K:=eL aA X;rw[ak]at K;have K:=b7 K;generalize z:U.eval X=aM at K;cases K;have an:=(aR q e ag).eO;rw[aK]at an;obtain⟨B,R,S,aO,aP,az,bq,aQ,aS⟩:=(aR W a4 aa).c';have C:(B.bytes:Int)*(k:Int)<=281474976710656:=M;have aG:=run_make (P:=P) (w:=b.a) q W B R an S az H T k k y (p9 _) C y;simp[c5]at aG;let d:=(madeCells R.cells (k*B.size)).toList;have G:c d=k*a4.size:=by grind[size_madeCells]
 have aD:∀I∈R.cells.toList,dW I=f:=bN.gn (uo (p:=p) (b:=b) bq);have aF:c R.cells.toList=a4.size:=NF;have aI:∀I∈d,dW I=f:=by intro I ai;simp[d,madeCells,Array.toList_map,k4]at ai;grind[Nat.mod_lt]
 have aE:er (p++[.J (ck W a4.size (.row b.a.heap.size k) k d)]) {b with a:=b.a.alloc (.cells d.toArray W),l:=b.l++[⟨.nilFunc,[b.a.heap.size]⟩]} (.J (ck W a4.size (.row b.a.heap.size k) k d)) ⟨.nilFunc,[b.a.heap.size]⟩:=by
  refine⟨λO=>if O=b.a.heap.size then h (.cells (d++[]).toArray W (0,0))else n,⟨a,aI,G,bC _,by omega,[],by grind,a⟩,λO t C=>?_,λO=>?_,λO C t=>?_⟩
  .by_cases u:O=b.a.heap.size
   .subst u;simp[dH]at C;grind[lV]
   grind
  .by_cases u:O=b.a.heap.size<;>simp[u]
  simp at C;subst C;cases v:b.u b.a.heap.size t with
  |none=>rfl
  |some I=>have:=s.block v;omega
 have N:bb p {b with a:=b.a.alloc (.cells d.toArray W)}/\cN p b p {b with a:=b.a.alloc (.cells d.toArray W)}:=
  s.cY E (λA j=>iQ b.a _ j) (λA j t=>rfl) (λA j t I v=>by have:=s.block v;omega) a a a
 obtain⟨V,Y⟩:=N.1.b0 N.2 rfl s aE (λA j=>by simp_all);refine⟨(b.a.heap.size,d),.value (.slice (h ⟨b.a.heap.size,0,n⟩) k k),_,_,?_,.inl a,Rd.val a,V,Y,?_⟩
 .simp[ac,aB,aw,z,aG,d]
 have u:ac U.eval t=(do pure (.value (<-Instr.makeSlice q (.int H k) (.int T k)))):=by simp[ac,aB,aw,z]
 rw[u];refine jj ?_;intro u x;have ah:∀i,(underlying q).run P i=.ok (.slice W) i:=λi=>by simp[underlying,an]
 have aH:∀i,(typeInfo W).run P i=.ok B i:=λi=>by simp[typeInfo,S]
 have L:∀i,(zeroValue W).run P i=.ok R i:=λi=>by simp[zeroValue,typeInfo,S,az]
 have aN:∀i,(sizeOf W).run P i=.ok B.size i:=λi=>by simp[sizeOf,typeInfo,S]
 have av:IntKind.i64.wrap (k:Int)=k:=by grind[IntKind.wrap_i64]
 have aq:¬(k:Int)<0:=y;have au:¬(281474976710656<(B.bytes:Int)*k):=y;simp[Instr.makeSlice,ah,aH,aN,asInt,asIntOf,av,aq,au]at x;rw[L]at x;simp[aJ,(dB.newRow (P:=P)) _ _,ite_self]at x;unfold askRoom at x;split at x
 .have:u=⟨.mark .noRoom,l,f⟩:=by simpa using x
  rw[this];exact .inl a
 simp at x
end
section
variable {i I:Nat}{bz:Z}
end
def Yt{a B:m α}{b}(g:b+c B<=c a)(d):(a.take b++B++a.drop (b+c B))[d]?=if b<=d/\d<b+c B then B[d-b]? else a[d]?:=by have e:c (a.take b)=b:=M;grind
def eg.fh{i}{d:Nat->m N}{ag}{new}(o:eg i k T ag)(e w)(bp:e<k)(r:m7 B new)(D:w+c new<=i)(A:∀a,a<k->a≠e->d a=T a)(u:c (d e)=i)(q:∀b g,(d e)[b]?=h g->(w<=b/\b<w+c new/\new[b-w]?=h (O.c g))∨(¬(w<=b/\b<w+c new)/\(T e)[b]?=h g)):eg i k d (ag.take (e*i+w)++B++ag.drop (e*i+w+c B)):=by
 have J:e*i+i<=k*i:=FB;have I:=r.1;have E:=o.len;have s:e*i+w+c B<=c ag:=y;refine⟨by grind,λa j=>?_,λa j b g z=>?_⟩
 .by_cases p:a=e
  .grind
  rw[A a j p];exact o.ek a j
 rw[Yt s];by_cases p:a=e
 .subst p;rcases q b g z with⟨cS,dq,C⟩|⟨cS,dq⟩
  .rw[br y,show a*i+b-(a*i+w)=b-w by omega];exact r.2 _ g C
  rw[bm y];exact o.bX a j b g dq
 have x:(T a)[b]?=h g:=M;have F:b<i:=by rw[<-o.ek a j];grind
 rw[bm ?_]
 .exact o.bX a j b g x
 rcases Nat.lt_or_gt_of_ne p with v|t
 .have:a*i+i<=e*i:=by rw[<-o4];exact gX _ v
  omega
 have:e*i+i<=a*i:=by rw[<-o4];exact gX _ t
 omega
def eg.gD{i}{a:Nat->m N}{ag}(g:eg i k T ag)(t:∀b,b<k->a b=T b)(u:c (a k)=i)(x:c B=i)(A:∀(d:Nat)e,(a k)[d]?=h e->∃p,B[d]?=h p/\∀q,Rd q p e):eg i (k+1) a (ag++B):=by
 have v:=g.len;refine⟨by grind,λb o=>?_,λb o d e z=>?_⟩
 .by_cases s:b=k
  .grind
  rw[t b y];exact g.ek b y
 by_cases s:b=k
 .grind
 have j:b<k:=y;have r:(T b)[d]?=h e:=M;have w:d<i:=by rw[<-g.ek b j];grind
 have:b*i+i<=k*i:=by rw[<-o4];exact gX _ j
 rw[kA y];exact g.bX b j d e r
def pB(b:m (Nat×bv))(a:bH):m ResultVar->Option (m z)
 |[]=>h []
 |.tmp j::i=>match pB b a i with
  |some g=>h (look a j::g)
  |none=>n
 |.cell d j::i=>match pB b a i with
  |some g=>match look a d with
   |.n (.aq (.c (.O e)))=>match bZ b j with
    |some o=>match hc o (e.map O.c)with
     |some k=>h (.n k::g)
     |none=>n
    |none=>n
   |_=>n
  |none=>n
def DT{P}{ad}(aR:bn P ad){D}{p}{b}{F}{V}(ab:bY D p b F V):∀{S:m ResultVar}{d:m z},pB ad F S=h d ->
  ∃B,b5 p b B d/\∀Q,(∀j A T,b.u j A=h T->Q.cell? ⟨j,A,n⟩=h T)->(S.mapM (ib V)).run P Q=Result.ok B Q/\∀q,∀y∈(S.mapM (ib V)).events P Q q,y∈q∨∃j A T,y=⟨.cell ⟨j,A,n⟩,l,l⟩/\b.u j A=h T
 |[],d,o=>by cases o;exact⟨[],v,λQ _=>⟨by simp,λq y r=>.inl (by simpa using r)⟩⟩
 |.tmp x::ao,d,o=>by
  simp[pB]at o;cases W:pB ad F ao with
  |none=>grind
  |some aK=>
   simp[W]at o;subst o;obtain⟨B,ag,aN⟩:=DT aR ab W;refine⟨V.tmps.getD x K::B,⟨ab.aH x,ag⟩,λQ C=>?_⟩;obtain⟨k1,R⟩:=aN Q C;refine⟨by simp[o6,cH,ib,d8,c1,k1],λq y r=>R q y ?_⟩;simpa[o6,ib,k1]using r
 |.cell u x::ao,d,o=>by
  simp[pB]at o;cases W:pB ad F ao with
  |none=>grind
  |some aK=>
   simp[W]at o;have Z:=ab.aH u;generalize look F u=aP at o Z;split at o
   case h_2=>cases o
   rename_i e;cases I:bZ ad x with
   |none=>grind
   |some t=>
    simp[I]at o;cases N:hc t (e.map O.c)with
    |none=>grind
    |some ah=>
     simp[N]at o;subst o;obtain⟨B,ag,aN⟩:=DT aR ab W;have G:=b7 Z;generalize aF:V.tmps.getD u K=aM at G;cases G;rename_i j i X J av;let U:=(aC (c e)).map X;have H:bN p b U (e.map O.c):=by
      have key:∀k d,(∀g aa,d[g]?=h aa->Rd b.u (X (k+g)) aa)->bN p b ((aC (c d)).map λg=>X (k+g)) (d.map O.c):=by
       intro k d;induction d generalizing k with
       |nil=>intro _;trivial
       |cons aI d ak=>
        intro Y;rw[fl,wU];refine⟨Y 0 aI a,?_⟩;have:=ak (k+1) (λg aa w=>by have:=Y (g+1) aa M;grind);grind[Function.comp_def]
      have:=key 0 e M;grind
     have az:∀g s,U[g]?=h s->b.u j (i+g)=h s:=λg s w=>by
      simp[U,m']at w;by_cases aw:g<c e
      .simp[aw]at w;subst w;exact J g e[g] (bI aw)
      grind
     let aO:au:={b.a with heap:=b.a.heap}
     have ax:∃s,et p b s ah/\∀Q,(∀j A T,b.u j A=h T->Q.cell? ⟨j,A,n⟩=h T)->(loadVar x ⟨j,i,n⟩).run P Q=.ok s Q:=by
      have ae:=aR x t I;cases E:t.agg<;>simp[hc,E]at N
      .cases ar:c7 0 (e.map O.c)with
       |none=>grind
       |some aG=>
        simp[ar]at N;subst N;obtain⟨s,aj,aD⟩:=H.get (ej ar);refine⟨s,aD,λQ C=>?_⟩;have:=C _ _ _ (az 0 s aj);simp[loadVar,cH,ae.ep,c1,E];grind[run_load]
      cases ar:mU t.size (e.map O.c)with
      |none=>grind
      |some r0=>
       simp[ar]at N;subst N;obtain⟨an,aL⟩:=tQ ar;have aq:=H.take t.size;rw[<-an]at aq;have ai:c (U.take t.size)=t.size:=M;refine⟨.agg (U.take t.size).toArray,⟨U.take t.size,a,aq⟩,λQ C=>?_⟩;have L:=run_loadCells_list (P:=P) Q ⟨j,i,n⟩ (U.take t.size) (λg s w=>by grind[gN]);rw[ai]at L;simp[loadVar,cH,ae.ep,c1,E];simp[ae.bb,L]
     obtain⟨s,aB,aE⟩:=ax;refine⟨s::B,⟨aB,ag⟩,λQ C=>?_⟩;obtain⟨k1,R⟩:=aN Q C;have aA:(ib V (.cell u x))=loadVar x ⟨j,i,n⟩:=by simp[ib,aF,asAddr]
     refine⟨by grind[Go.Sem.run_bind,Go.Sem.run_pure,Go.Result.andThen_ok],λq y r=>?_⟩;rw[o6,aA]at r;simp[aH,aE Q C,aJ,k1,Sem.events_pure]at r;rcases R _ y r with r|r
     .rcases Dh r with r|r
      .grind
      obtain⟨g,w,rfl⟩:=pd (aR x t I) (Q:=Q) (k:=c e) (λg w=>⟨X g,C _ _ _ (J g e[g] (bI w))⟩) (by have:=r_ N;grind) y r;exact .inr ⟨j,i+g,X g,a,J g e[g] (bI w)⟩
     grind
theorem oV.fc(aR:bn P ad){fn}{bg}{p}(u:pB ad F fn.results.toList=h bg)(m:pq bg=h p):oV P fn F p:=by
 intro z A x g s;obtain⟨B,j,k⟩:=DT aR s u;refine⟨_,JY m j,λe t=>?_⟩;obtain⟨k1,v⟩:=k e t;have i:(fn.results.mapM (ib g)).run P e=Result.ok B.toArray e:=Q9;have r:∀a,∀d∈(fn.results.mapM (ib g)).events P e a,d∈a∨∃o q y,d=⟨.cell ⟨o,q,n⟩,l,l⟩/\x.u o q=h y:=by rw[w7];intro a d b;exact v a d (by simpa using b)
 constructor
 .unfold results;rw[cH];refine(eK (λw=>Result.andThen w _) (Eq.trans ?_ i)).trans ?_
  .congr 2
  simp
 intro d b;have C:d∈(fn.results.mapM (ib g)).events P e #[]:=by unfold results at b;rw[aH]at b;change d∈((fn.results.mapM (ib g)).run P e).evThen ((fn.results.mapM (ib g)).events P e #[]) _ at b;rw[i]at b;simpa using b
 grind
section
variable {r:aj P}
def tB(i:m (Nat×bv))(e:m ResultVar)(b:m Nat)(g:bH)(a:z):Option (m Prop):=
 match pB i g e with
 |some d=>match pq d with
  |some j=>match hM (c b) a with
   |true=>km j (e9 b a)
   |false=>n
  |none=>n
 |none=>n
def g.cp(aR:bn P ad){fn}{d}{res}(aP)(e:tB ad fn.results.toList aP F res=h ab)(o:U ab)(m:dv aP p=h ao)(k:l4 ao=f)(j:e8 aP=f)(i:∀b,b<d->aP[b]?=h b):
  g r D (k2 P fn d res ao) (.code .ret::ar) .normal F p:=by refine g.ret ⟨.inl a,aP,?_⟩;unfold tB at e;grind[oV.fc]
def Y.bD{j}{fn}{args}{res}(i:P.funcs[j]?=h fn)(e:(fn.name== "runtime.NumGoroutine")=l)(d:fn.body=h s)(m:ay args.length fn.ntmps=f)(o:ky args p->g r fn.ntmps (k2 P fn p.length res ao) [.code s] .normal (h2 0 args) p):Y r j args p res ao:=by refine⟨⟨fn,i,e,by grind⟩,λk B b a=>?_⟩;have:=bk.hf (r:=r) (ι:=Unit) (ao:=λ_=>ao) (res:=λ_=>res) i e d (fc m) (b0.mono (g.aW (o ⟨k,B,b,a⟩)) λ_ _ _ q=>⟨(),q⟩);exact this.toY.2 k B b a
def bW.mk{fn}{d}{res}(aP)(e:pC fn.results.toList aP F res=h ab)(m:U ab)(k:dv aP p=h ao)(j:l4 ao=f)(i:e8 aP=f)(g:∀b,b<d->aP[b]?=h b):bW fn d res ao .ret F p:=by refine⟨.inl a,aP,?_⟩;unfold pC at e;grind
end
def Gj{u:aj P}{j:aK}{i}{x}{bs}{E}(I:j.kind≠.early)(o:aD[e]?=h t)(W:aU t (yielded aD x.tmps)=f)(F:bb p b)(S:∀v,(ac x.eval t).run P v=.ok (.enter E B.toArray) v)(R:∀v,(ac x.eval t).events P v #[]=#[])(V:bk u E cR p res aM)(K:b5 p b B cR)(M:∀m r g,bx (aM m) g r (res m)->bb (aM m) g->dc p b (aM m) g->cb u bq (G (j.M (x.put t.dst r) (.inRegion aD bs::i)) ah) g):
  cb u bq (G (j.M x (.inRegion aD (e::bs)::i)) ah) b:=by
 obtain⟨_,Q⟩:=V;refine .next a λD U=>?_;have C:=u.bN U;have z:=F.rely C;have J:b5 p D B cR:=K.mono C.aV.ext F.len;refine⟨_,D,_,tH o W I (S D.a),?_,Q _ B J z bq _ λm N r T y k d q=>?_⟩
 .refine⟨⟨p,p,z,z,.refl _ _⟩,dt.seen ?_⟩;rw[R];exact .nil
 refine uG (ah:=ah) (s:=j.M x (.inRegion aD (e::bs)::i)) d y λO w=>?_;have A:=qs (j:=j) (x:=x) (i:=i) aD e bs r;rw[o]at A;simp only[n4]at A;rw[A];exact M m r O (k.mono w.aV.ext d.len) (d.rely w) (C.aV.trans (q.trans w.aV))
def g.cJ{s:aj P}{V:a3}(Y:bk s V cR p res aM)(aH:t.guard=n)(o:t.op=.call {callee:=.value cP,args:=ag,argTypes:=dp})(r:gO (bF F cP)=h (V,cap))(aA:lZ (ag.toList.map (bF F)++e2 cap) cR=h ab)(ah:U ab)(an:fd D t.dst=f)(az:∀d,g s D be (.ae all bs::ar) .normal (fT t.dst (res d) F) (aM d)):g s D be (.ae all (t::bs)::ar) .normal F p:=by
 intro aa S q e aq J v ao idx j a A;cases idx with
 |nil=>exact a.elim
 |cons aJ idx=>
 obtain⟨B,a⟩:=a;have Z:=eL q cP;unfold gO at r;split at r
 case h_2=>cases r
 case h_1 u6 uS he=>
  cases r;rw[he]at Z;have W:=b7 Z;generalize G:S.eval cP=aw at W;cases W with
  |fn x b E m av w ax y aF K=>
   have z:x=[]:=jA E;subst z;have aB:b5 p aa b (e2 cap):=qi (λd au C=>⟨w d,y d M,K d au C⟩) m;have aE:b5 p aa (ag.toList.map S.eval++b) cR:=tg aA ah ((m6 (eL q) ag.toList).append aB);obtain⟨fn,ad,X,T⟩:=Y.1;refine Gj j B (iY aH) e (λR=>(mO o ad X T G R).1) (λR=>(mO o ad X T G R).2) Y aE λd aK Q I k i=>?_;refine az d Q _ ?_ k aq J v ao idx j a λai O ak u aD L H ae=>A ai O ak u aD L H (i.trans ae);have N:=la an;cases aI:t.dst with
   |none=>exact q.mono i e.len
   |some aG=>exact(q.mono i e.len).put (N aG aI) I
def LX{p:Type}{d}{o}:∀{a:m Nat}{e i:m p},dv a e=h i->d∉a->dv a (e.set d o)=h i
 |[],e,i,b,_=>b
 |q::a,e,i,b,j=>by
  simp[fo,not_or]at j;simp[dv,lh]at b⊢;rw[kC j.1];cases g:e[q]? with
  |none=>simp[g]at b
  |some s=>
   simp[g]at b⊢;cases k:dv a e with
   |none=>simp[k]at b
   |some r=>rw[LX k j.2];simp only[k]at b;exact b
def Kj{i}{d}(b:ed i d=l):i∉d:=λa=>by rw[vt a]at b;cases b
def yI:Option (Tmp×E1)->m ResultVar
 |none=>[]
 |some a=>[.tmp a.1]
def KG(a:m O):Option (Tmp×E1)->z
 |none=>.n (.agg a)
 |some b=>.Q [.agg a,b.2]
def ur(w:m (Nat×bv))(fn:Func)(x:Nat)(b:z)(i:m an):fs:=λt s d=>
 (t=.ret∨t=.normal)/\∃a p v e u k g j,∃q:Option (Tmp×E1),(∀r,q=h r->look s r.1=.n r.2)/\fn.results.toList=.cell u k::yI q/\bZ w k=h g/\g.agg=f/\c e=g.size/\look s u=aG p 0/\d[p]?=h (.cells v e)/\p∉a /\
  km (KG e q) (e9 a b)=h j/\U j/\hM (c a) b=f/\dv a d=h i/\l4 i=f/\e8 a=f/\(∀o,o<x->a[o]?=h o)
def bk.jB{r:aj P}(aR:bn P ad){a2}{fn}{args}{ao:ι->m an}(pm:P.funcs[a2]?=h fn)(aO:(fn.name== "runtime.NumGoroutine")=l)(cT:fn.body=h s)(bQ:args.length<=fn.ntmps)(a4:∀b b_,bY fn.ntmps p b (h2 0 args) b_->bb p b->∀j cc S (aZ:ak->a5->Prop),j.kind≠.early->j.roundOf=n ->
  (∀C ae I az a0,(∃u,ur ad fn (c p) (res u) (ao u) C ae I)->bY fn.ntmps I az ae a0->bb I az->dc p b I az->kI r aZ j cc S C a0 az)->cb r aZ (G (j.M b_ (.code s::cc)) S) b):bk r a2 args p res ao:=by
 refine⟨⟨fn,pm,aO,by rw[cT];rfl⟩,λb B bS bO aZ S bK=>?_⟩;obtain⟨bP,bM⟩:=b5.get bS;let j:aK:={fn:=a2,tmps:=#[],todo:=[],defers:=[],mode:=.run,kind:=.normal,roundOf:=n}
 have cf:Frame.enter P a2 B.toArray .normal=j.M {tmps:=B.toArray++Array.replicate (fn.ntmps-B.toArray.size) K,defers:=[]} [.code s]:=Nx;rw[cf];refine a4 b {tmps:=B.toArray++Array.replicate (fn.ntmps-B.toArray.size) K,defers:=[]} ⟨by simp;omega,⟨[],v⟩,λaJ=>?_⟩ bO j [] S aZ (by simp[j]) rfl ?_
 .rw[yz];simp only[gZ,dH,sy];have:=bM aJ;rcases dY aJ (c B) with ca|b'
  .have C:(B.toArray++Array.replicate (fn.ntmps-B.toArray.size) K).getD aJ K=(B[aJ]?).getD K:=Fy;rw[C];exact this
  rw[wV y];trivial
 .rintro C ae aM e jy ⟨ai,V,aP,d,W,aI,aJ,ty,it,ab,t,bU,aV,aW,tv,DL,bV,bf,bW,bE,bF,bG,a6,a8,bH,cl⟩ b4 J bg;obtain⟨a7,a9⟩:=Lc a8;have O:=b4.aH aJ;rw[bV]at O;obtain⟨_,L,dU,D,a',aQ⟩:=O;obtain⟨cj,A,a_,cg,b7,cm⟩:=J.box d _ L bf D;subst a_;cases a';let cd:Mem:=λz t=>if z=dU then A[t]? else e.u z t;have bq:∀t w,A[t]?=h w->e.a.cell? ⟨dU,t,n⟩=h w:=λt w bR=>by simpa[aL,cg]using bR
  have aD:∀z t w,e.u z t=h w->cd z t=h w:=λz t w X=>by grind
  have av:∀z t w,cd z t=h w->e.a.cell? ⟨z,t,n⟩=h w:=λz t w X=>by
   by_cases C:z=dU
   .grind
   simp[cd,C,dh]at X;exact J.mem z t w X
  obtain⟨U,H⟩:=J.b7 (cd:=cd) (bi:=e.a) (d':=.x) (cn:=⟨.pointer (h ⟨dU,0,n⟩),[]⟩) bf D rfl (bC _) (λ_ _ _=>rfl) (λz _ aN t=>by grind) aD av E rfl rfl rfl v
  have aq:eW e ⟨e.l.set d ⟨.pointer (h ⟨dU,0,n⟩),[]⟩,cd,e.a,e.own⟩:=⟨rfl,aD,λz aN t=>by
   have:z≠dU:=by rintro rfl;exact aN _ (b9 D) E
   simp[cd,this,dh],av,λz aN=>by grind⟩
  have bB:bY fn.ntmps (aM.set d .x) ⟨e.l.set d ⟨.pointer (h ⟨dU,0,n⟩),[]⟩,cd,e.a,e.own⟩ ae jy:=⟨b4.size,b4.defers.imp λ_ bD=>bD.mono H.ext,λF=>(b4.aH F).mono H.ext J.len⟩
  have ag:=LX (o:=an.x) a6 bW;have aS:bN (aM.set d .x) ⟨e.l.set d ⟨.pointer (h ⟨dU,0,n⟩),[]⟩,cd,e.a,e.own⟩ A aI:=b7.mono H.ext J.len;have b0:=bg.trans (H.too1 J);let bp:Z:=match t with|none=>.agg A.toArray|some bd=>.tuple #[.agg A.toArray,jy.tmps.getD bd.1 K]
  have b6:∀Q,(∀j t F,cd j t=h F->Q.cell? ⟨j,t,n⟩=h F)->(results fn jy.tmps).run P Q=.ok bp Q/\∀C∈(results fn jy.tmps).events P Q #[],∃j t F,C=⟨.cell ⟨j,t,n⟩,l,l⟩/\cd j t=h F:=by
   intro Q aU;have br:=aR ty it aW;have aG:c A=it.size:=by rw[b7.cM,DL]
   have au:∀u w,A[u]?=h w->Q.cell? ⟨dU,0+u,n⟩=h w:=λu w x=>aU _ _ _ M;have a:=run_loadCells_list (P:=P) Q ⟨dU,0,n⟩ A (λu w x=>by rw[gN];exact au u w x);rw[aG]at a;have aB:(loadVar ty ⟨dU,0,n⟩).run P Q=.ok (.agg A.toArray) Q:=by simp[loadVar,cH,br.ep,c1,tv];simp[br.bb,a]
   have b8:fn.results=(ResultVar.cell aJ ty::yI t).toArray:=by apply Array.ext';simpa using aV
   have b3:asAddr (jy.tmps[aJ]?.getD K)=(pure ⟨dU,0,n⟩:Sem Addr):=by rw[<-hp,aQ];rfl
   refine⟨by cases t<;>simp[results,b8,b3,aB,bp,yI],λC V=>?_⟩;have ba:C∈(loadVar ty ⟨dU,0,n⟩).events P Q #[]:=by cases t<;>simpa[results,b8,b3,aB,yI]using V
   obtain⟨u,x,rfl⟩:=pd br (Q:=Q) (k:=c A) (λu x=>⟨_,au u A[u] (bI x)⟩) (by rw[tv,aG];simp) C ba;exact⟨dU,0+u,A[u],rfl,by grind⟩
  have fin:∀q g,cU (⟨e.l.set d ⟨.pointer (h ⟨dU,0,n⟩),[]⟩,cd,e.a,e.own⟩:a5) g->q.fn=a2->q.tmps=jy.tmps->q.defers=jy.defers->q.mode=.returning->q.kind=.normal->cb r aZ (G q S) g:=by
   intro q g i bu bw bz a1 bA;have a3:=bB.rely i U;have aX:=U.rely i;have aa:=b0.trans i.aV;have bX:bx (aM.set d .x) g bp (KG aI t):=by
    have aF:=aS.mono i.aV.ext U.len;cases t with
    |none=>exact⟨A,rfl,aF⟩
    |some bd=>
     have bc:=a3.aH bd.1;rw[bU bd rfl]at bc;exact⟨[.agg A.toArray,jy.tmps.getD bd.1 K],rfl,⟨A,rfl,aF⟩,bc,v⟩
   obtain⟨ah,bo⟩:=vU (kL:=g.l) ag aX.len;have bZ:=(pr bE bF bX).sub ag bo bG;obtain⟨ck,bt⟩:=l5 ag;obtain⟨d1,d2⟩:=l5 bo;have bs:∀L∈ah,L∈g.l:=D1 bo;have aw:bb (ao ai) {g with l:=ah}:=by obtain⟨T,_⟩:=aX.sub ag bo a7 bH;refine⟨T.mem,T.len,λu bm L aE D=>?_,T.a3,T.lt,λj cT=>⟨(aX.own j cT).1,λL D=>(aX.own j cT).2 L (bs L D)⟩⟩;exact er.plain (p:=ao ai) (b:={g with l:=ah,own:=oF g ah}) (az:={g with l:=ah}) rfl rfl (vL a7 bm (b9 aE)) (T.box u bm L aE D)
   have bh:dc p b (ao ai) {g with l:=ah}:=by refine⟨aa.size,aa.a6,aa.mem,aa.bE,λL D j cT=>aa.bT _ (bs L D) j cT,λd bm L aE D=>?_,aa.os,aa.tape,aa.output,aa.own⟩;have bP:d<c p:=(cO.1 aE).1;obtain⟨d',cn,cp,cq,cr⟩:=aa.box d bm L aE D;grind
   obtain⟨bT,aA⟩:=a3.defers;refine AS bT q g _ aX.ec M a1 (by rw[bz];exact aA.gE aX) λY R=>?_;have N:cU {g with l:=ah} {Y with l:=ah}:=by
    refine⟨rfl,R.u,R.own,R.size,λj cT=>R.a6 j (cT.imp id ?_),R.mem,R.os,R.tape,R.output⟩;rintro⟨L,D,cT⟩;obtain⟨u,x,rfl⟩:=hG D;have ax:u<c aP:=by rw[<-d1];exact x
    obtain⟨cu,bl,b2⟩:=d2 u _ (bI ax);obtain⟨o,b1,bj⟩:=bt u _ (bI ax);rw[bI x]at bl;cases bl;refine⟨_,_,b2,λbL=>?_,cT⟩;rw[aA.e6 _ bL]at bj;cases bj;exact vw a9 _ (b9 b1) rfl
   have bJ:eW Y {Y with l:=ah}:=⟨rfl,λ_ _ _ a4=>a4,λ_ _ _=>rfl,λj t w X=>R.mem j t w (by rw[<-R.u];exact X),λj cT=>cT.imp id λ⟨L,D,cT⟩=>⟨L,by rw[R.l];exact bs L D,cT⟩⟩
   have ar:g.u=cd:=i.u;refine .aU bJ (bK ai _ bp _ ⟨bu,a1,rfl,bA,fn,by grind,λQ aU=>?_⟩ (bZ.mono N.aV.ext aw.len) (aw.rely N) (bh.trans N.aV));show(results fn q.tmps).run P Q=_/\∀C∈(results fn q.tmps).events P Q #[],_;rw[bw];have aH:∀j t F,cd j t=h F->Q.cell? ⟨j,t,n⟩=h F:=λj t F a4=>aU j t F (by show Y.u j t=h F;rw[R.u,ar];exact a4);refine⟨(b6 Q aH).1,λC V=>?_⟩;obtain⟨j,t,F,aV,aW⟩:=(b6 Q aH).2 C V;exact⟨j,t,F,aV,by show Y.u j t=h F;rw[R.u,ar];exact aW⟩
  rcases V with rfl|rfl
  .intro pre;exact .aU aq (.ctl U rfl (λ_=>D5 rfl) λg i=>fin _ g i rfl rfl (h1 _) rfl rfl)
  exact .aU aq (.ctl U rfl (λ_=>D3 rfl) λg i=>fin _ g i rfl rfl (h1 _) rfl rfl)
def bk.bD{r:aj P}(aR:bn P ad){j}{fn}{args}{ao:ι->m an}(u:P.funcs[j]?=h fn)(t:(fn.name== "runtime.NumGoroutine")=l)(b:fn.body=h s)(C:ay args.length fn.ntmps=f)(D:ky args p->g r fn.ntmps (λA w i=>∃v,ur ad fn p.length (res v) (ao v) A w i) [.code s] .normal (h2 0 args) p):bk r j args p res ao:=by refine⟨⟨fn,u,t,by rw[b];rfl⟩,λe B d a=>?_⟩;have:=bk.jB (r:=r) (ao:=ao) (res:=res) aR u t b (fc C) λI y j o z E k x q _ F=>(show b0 r fn.ntmps s _ (h2 0 args) p from g.aW (D ⟨e,B,d,a⟩)) I y j o z E k x q F;exact this.2 e B d a
def bN.set{p}{b}{j}{aa}:∀{B:m Z}{a:m O}{i:Nat},bN p b B a->B[i]?=h aa->cx p b aa j->bN p b B (a.set i j)
 |[],[],_,_,d,_=>by grind
 |[],_::_,_,d,_,_=>d.elim
 |_::_,[],_,d,_,_=>d.elim
 |o::B,k::a,0,d,e,g=>by simp at e;subst e;exact⟨g,d.2⟩
 |o::B,k::a,i+1,d,e,g=>⟨d.1,bN.set d.2 M g⟩
section
variable {r:aj P}
def g.cl(d w)(W i)(b:Nat->m N){eJ}{ah}{gb}{au:Nat->m N}(A:c7 d p=h (.cells eJ ah))(x:c7 w ah=h (.c (.S f gb 0 au)))(C:g r D be (.code s::ar) .normal F ((p++[an.r W i 0 b]).set d (.cells eJ (ah.set w (.r (c p) i 0 b))))):g r D be (.code s::ar) .normal F p:=by
 refine g.aU (λe az K bP=>?_) C;have aE:=ej A;have X:=ej x;have G:d<c p:=(cO.1 aE).1;have ai:d<c e.l:=hY;have I:=bI ai;generalize e.l[d]=L at I;obtain⟨u,B,av,Z,S,U⟩:=bP.box d _ L aE I;obtain⟨j,Y,V⟩:=S.get X;have k:Rd e.u j (.S f i 0 b):=(Rd.fU (i:=gb) (gb:=i) (.inr a) V).cA λR ad=>by omega
 have ao:er (p++[an.r W i 0 b]) {e with l:=e.l++[⟨j,[]⟩]} (.r W i 0 b) ⟨j,[]⟩:=⟨k.eg,.inl ⟨⟨rfl,rfl⟩,k⟩⟩;obtain⟨H,O⟩:=bP.b0 (.refl _ _) rfl bP ao E
 have z:(p++[an.r W i 0 b])[d]?=h (.cells eJ ah):=M;have ak:(e.l++[(⟨j,[]⟩:Loc)])[d]?=h L:=M;have ag:(e.l++[(⟨j,[]⟩:Loc)]).set d L=e.l++[⟨j,[]⟩]:=mY;have aw:fE (.cells eJ ah) L (.cells eJ (ah.set w (.r (c p) i 0 b))) L:=rfl;have ax:c p≠d:=y;have ab:er ((p++[an.r W i 0 b]).set d (.cells eJ (ah.set w (.r (c p) i 0 b)))) ⟨(e.l++[(⟨j,[]⟩:Loc)]).set d L,e.u,e.a,e.own⟩ (.cells eJ (ah.set w (.r (c p) i 0 b))) L:=by
  rw[ag];refine⟨u,B,av,Z,?_,U⟩;have v:fk (p++[an.r W i 0 b]) {e with l:=e.l++[⟨j,[]⟩]} ((p++[an.r W i 0 b]).set d (.cells eJ (ah.set w (.r (c p) i 0 b)))) {e with l:=e.l++[⟨j,[]⟩]}:=by
   refine⟨λ_ _ _ q=>q,λR bX cn Q lS=>?_⟩;by_cases aA:d=R
   .grind
   exact E4
  have aa:bN (p++[an.r W i 0 b]) {e with l:=e.l++[⟨j,[]⟩]} B ah:=S.mono O.ext bP.len;refine bN.set (aa.mono v H.len) Y ?_;refine⟨k.eg,by simp,λT ae aj kJ q=>?_⟩;rw[kC y,hq y,uA]at q;cases q;refine⟨bC _,λ_=>⟨⟨j,[]⟩,?_,a⟩⟩;exact t'
 obtain⟨aN,J⟩:=H.b7 (cd:=e.u) (bi:=e.a) (cn:=L) z ak aw (bC _) (λ_ _ _=>rfl) (λ_ _ _ _=>rfl) (λ_ _ _ q=>q) bP.mem (λu t=>⟨.inl t,bP.lt L (b9 I) u t⟩) rfl rfl rfl ab;have o:=O.trans J;exact⟨⟨(e.l++[(⟨j,[]⟩:Loc)]).set d L,e.u,e.a,e.own⟩,a,⟨K.size,K.defers.imp λ_ k=>k.mono o.ext,λaq=>(K.aH aq).mono o.ext bP.len⟩,aN,o⟩
end
section
variable {r:aj P}
def g.fb(q)(W i)(dI:Nat->m N){e}{t:Nat->m N}(v:look F q=ax (.S f e 0 t))(j:g r D be (.code s::ar) .normal ((q,cz (c p) (.S 0 i 0 0))::F) (p++[.h W i 0 dI])):g r D be (.code s::ar) .normal F p:=by
 refine g.aU (λk w a bP=>?_) j;have C:=a.aH q;rw[v]at C;obtain⟨u,b⟩:=bP.b0 (bX:=.h W i 0 dI) (L:=⟨.slice n 0 0,[]⟩) (.refl _ _) rfl bP (.inl ⟨rfl,rfl⟩) E;refine⟨{k with l:=k.l++[⟨.slice n 0 0,[]⟩]},rfl,⟨a.size,a.defers.imp λ_ d=>d.mono b.ext,λo=>?_⟩,u,b⟩;simp only[look];cases cT:af q o with
 |false=>exact(a.aH o).mono b.ext bP.len
 |true=>
  exact PZ
def g.en(d w)(W i)(b:Nat->m N){eJ}{ah}{A}{ai:Nat->m N}(y:c7 d p=h (.cells eJ ah))(x:c7 w ah=h (.c (.S f A 0 ai)))(C:g r D be (.code s::ar) .normal F ((p++[an.h W i 0 b]).set d (.cells eJ (ah.set w (.R (c p) (.S 0 i 0 0)))))):g r D be (.code s::ar) .normal F p:=by
 refine g.aU (λe aq J bP=>?_) C;have aE:=ej y;have U:=ej x;have H:d<c p:=(cO.1 aE).1;have ad:d<c e.l:=hY;have I:=bI ad;generalize e.l[d]=L at I;obtain⟨q,B,ak,X,O,R⟩:=bP.box d _ L aE I;obtain⟨av,V,S⟩:=O.get U;let j:Loc:=⟨.slice n 0 0,[]⟩
 obtain⟨K,G⟩:=bP.b0 (bX:=.h W i 0 b) (L:=j) (.refl _ _) rfl bP (.inl ⟨rfl,rfl⟩) M;have Q:(p++[an.h W i 0 b])[d]?=h (.cells eJ ah):=M;have ae:(e.l++[j])[d]?=h L:=M;have ab:(e.l++[j]).set d L=e.l++[j]:=mY;have z:fE (.cells eJ ah) L (.cells eJ (ah.set w (.R (c p) (.S 0 i 0 0)))) L:=rfl;have aa:er ((p++[an.h W i 0 b]).set d (.cells eJ (ah.set w (.R (c p) (.S 0 i 0 0))))) ⟨(e.l++[j]).set d L,e.u,e.a,e.own⟩ (.cells eJ (ah.set w (.R (c p) (.S 0 i 0 0)))) L:=by
  rw[ab];refine⟨q,B,ak,X,?_,R⟩;have t:fk (p++[an.h W i 0 b]) {e with l:=e.l++[j]} ((p++[an.h W i 0 b]).set d (.cells eJ (ah.set w (.R (c p) (.S 0 i 0 0))))) {e with l:=e.l++[j]}:=by
   refine⟨λ_ _ _ u=>u,λZ bX L ao aj=>?_⟩;by_cases au:d=Z
   .grind
   exact⟨bX,L,by grind,aj,.refl _ _⟩
  have Y:bN (p++[an.h W i 0 b]) {e with l:=e.l++[j]} B ah:=O.mono G.ext bP.len;exact bN.set (Y.mono t K.len) V (Dm (W:=W) (T:=b) S M (by simp[<-bP.len,j]))
 obtain⟨aN,E⟩:=K.b7 (cd:=e.u) (bi:=e.a) (cn:=L) Q ae z (bC _) (λ_ _ _=>rfl) (λ_ _ _ _=>rfl) (λ_ _ _ u=>u) bP.mem (λq o=>⟨.inl o,bP.lt L (b9 I) q o⟩) rfl rfl rfl aa;have k:=G.trans E;exact⟨⟨(e.l++[j]).set d L,e.u,e.a,e.own⟩,a,⟨J.size,J.defers.imp λ_ v=>v.mono k.ext,λag=>(J.aH ag).mono k.ext bP.len⟩,aN,k⟩
end
def hz:Nat->(Nat->m N)->Nat->m N
 |0,a=>a
 |b+1,a=>fx (b+1) a
def yK(t)(a:Nat->m N)(e):hz t a e=a (t+e):=by cases t<;>simp[hz,fx]
def xG(i g k:Nat)(b:Nat->m N)(a:O):Option (O×m Prop):=match lY i a with
 |true=>h (a,[])
 |false=>match a with
  |.R e (.S p d o j)=>match af e i,af d g with
   |true,f=>h (.c (.S l g j (hz o b)),[p=k,o+j<=k])
   |_,_=>n
  |_=>n
def xI(g e i:Nat)(a:Nat->m N):m O->Option (m O×m Prop)
 |[]=>h ([],[])
 |j::p=>match xG g e i a j with
  |some (b,k)=>match xI g e i a p with
   |some (d,o)=>h (b::d,gB k o)
   |none=>n
  |none=>n
def uV(i g j:Nat)(b:Nat->m N):E1->Option (E1×m Prop)
 |.aq d=>match xG i g j b d with|some (d,e)=>h (.aq d,e)|none=>n
 |.agg a=>match xI i g j b a with|some (a,e)=>h (.agg a,e)|none=>n
def xH(g e i:Nat)(a:Nat->m N):m E1->Option (m E1×m Prop)
 |[]=>h ([],[])
 |j::p=>match uV g e i a j with
  |some (b,k)=>match xH g e i a p with
   |some (d,o)=>h (b::d,gB k o)
   |none=>n
  |none=>n
def uU(i g j:Nat)(b:Nat->m N):z->Option (z×m Prop)
 |.n e=>match uV i g j b e with|some (e,d)=>h (.n e,d)|none=>n
 |.Q a=>match xH i g j b a with|some (a,d)=>h (.Q a,d)|none=>n
 |.any=>h (.any,[])
section
variable {aM:m an}{b3:a5}{W i:Nat}
structure m0(aM:m an)(W i k:Nat)(T:Nat->m N)(b b3:a5):Prop where
 a6:∀aa x,cx (aM++[.h W i k T]) b aa x->lY (c aM) x=f->cx aM b3 aa x
 eY:∀aa gb t A,cx (aM++[.h W i k T]) b aa (.R (c aM) (.S k gb t A))->gb=i->t+A<=k->Rd b3.u aa (.S l i A (hz t T))
def m0.cB(o:m0 aM W i k T b b3){aa}{x j}{ab}(g:xG (c aM) i k T x=h (j,ab))(q:U ab)(p:cx (aM++[.h W i k T]) b aa x):cx aM b3 aa j:=by
 unfold xG at g;split at g
 .rename_i s;cases g;exact o.a6 aa x p s
 split at g
 .rename_i u C r t A _;split at g
  .rename_i d e;cases g;have d:=di d;have e:=di e;subst d e;obtain⟨rfl,m⟩:C=k/\t+A<=k:=q;exact o.eY aa _ _ _ p a m
  grind
 grind
def m0.fv(p:m0 aM W i k T b b3):∀{B:m Z}{d a:m O}{e:m Prop},xI (c aM) i k T d=h (a,e)->U e->bN (aM++[.h W i k T]) b B d->bN aM b3 B a
 |[],[],_,_,g,_,_=>by cases g;trivial
 |[],_::_,_,_,_,_,j=>j.elim
 |_::_,[],_,_,_,_,j=>j.elim
 |v::B,s::d,a,e,g,o,j=>by
  simp[xI]at g;split at g
  .rename_i q t cS;split at g
   .rename_i r u dq;cases g;rw[U.Y]at o;exact⟨p.cB cS o.1 j.1,p.fv dq o.2 j.2⟩
   grind
  grind
def m0.n(j:m0 aM W i k T b b3){o g}(a:uV (c aM) i k T o=h (g,ab))(e:U ab)(m:et (aM++[.h W i k T]) b aa o):et aM b3 aa g:=by
 cases o with
 |aq t=>
  simp[uV]at a;split at a
  .rename_i d s cS;cases a;exact j.cB cS e m
  grind
 |agg p=>
  simp[uV]at a;split at a
  .rename_i d s cS;cases a;obtain⟨B,r,q⟩:=m;exact⟨B,r,j.fv cS e q⟩
  grind
def m0.g3(p:m0 aM W i k T b b3):∀{B:m Z}{d a:m E1}{e:m Prop},xH (c aM) i k T d=h (a,e)->U e->eS (aM++[.h W i k T]) b B d->eS aM b3 B a
 |[],[],_,_,g,_,_=>by cases g;trivial
 |[],_::_,_,_,_,_,j=>j.elim
 |_::_,[],_,_,_,_,j=>j.elim
 |v::B,s::d,a,e,g,o,j=>by
  simp[xH]at g;split at g
  .rename_i q t cS;split at g
   .rename_i r u dq;cases g;rw[U.Y]at o;exact⟨p.n cS o.1 j.1,p.g3 dq o.2 j.2⟩
   grind
  grind
def m0.c9(g:m0 aM W i k T b b3){o s}(a:uU (c aM) i k T o=h (s,ab))(e:U ab)(j:bx (aM++[.h W i k T]) b aa o):bx aM b3 aa s:=by
 cases o with
 |n o=>
  simp[uU]at a;split at a
  .rename_i d q cS;cases a;exact g.n cS e j
  grind
 |Q r=>
  simp[uU]at a;split at a
  .rename_i d q cS;cases a;obtain⟨B,p,m⟩:=j;exact⟨B,p,g.g3 cS e m⟩
  grind
 |any=>cases a;trivial
def bb.eY(p:bb (aM++[.h W i k T]) b)(aw:kk (c aM) aM=f):
  ∃x:a5,bb aM x/\eW b x/\m0 aM W i k T b x/\∀{t:m an} {R:a5},dc t R (aM++[.h W i k T]) b->t.length<=c aM->dc t R aM x:=by
 have aE:(aM++[an.h W i k T])[c aM]?=h (.h W i k T):=E;have G:c b.l=c aM+1:=by rw[p.len];simp
 have X:b.l[c aM]?=h b.l[c aM]:=bI y;generalize b.l[c aM]=L at X;have aJ:=p.box _ _ L aE X;obtain⟨cd,ak,N,z,aB⟩:∃cd:Mem,(∀j d g,b.u j d=h g->cd j d=h g)/\(∀j,j∉L.al->∀d,cd j d=b.u j d)/\(∀j d g,cd j d=h g->b.a.cell? ⟨j,d,n⟩=h g) /\
   (∀g e d A,cx (aM++[.h W i k T]) b g (.R (c aM) (.S k e d A))->e=i->d+A<=k->Rd cd g (.S l i A (hz d T))):=by
  rcases aJ with⟨rfl,rfl⟩|⟨j,aD,B,aP,rfl,bq,aR,ad,D,H,aH⟩
  .refine⟨b.u,λ_ _ _ aG=>aG,λ_ _ _=>rfl,p.mem,λg e d A Q F aa=>?_⟩;obtain⟨ae,⟨ar,Z,S,aD,I,U,ab,aA,av,ax⟩,_,ao⟩:=Q;grind[Rd.dH]
  let cd:Mem:=λs d=>if s=j then B[d]? else b.u s d;have aq:∀s d g,b.u s d=h g->cd s d=h g:=λs d g I=>by grind
  refine⟨cd,aq,λs aQ d=>M,λs d g I=>?_,λg e d A Q F aa=>?_⟩
  .by_cases F:s=j
   .subst F;simp[cd,dH]at I;simp[aL,bq];grind
   simp[cd,F,dh]at I;exact p.mem s d g I
  subst F;obtain⟨ae,⟨ar,Z,S,aF,I,U,ab,aA,av,ax⟩,_,ao⟩:=Q;obtain⟨cn,Y,au⟩:=(ao _ _ _ _ aE).2 rfl;rw[X]at Y;cases Y;rw[av]at au;cases au;rw[I];have O:∀r,r<A->∀w C,(hz d T r)[w]?=h C->∃ai,B[(d+r)*e+w]?=h ai/\Rd b.u ai C:=λr u w C q=>by rw[yK]at q;exact H.rd (d+r) y w C q
  refine .S j (d*e) (λr w=>(B[(d+r)*e+w]?).getD K) U y E (λr u=>by rw[yK];exact H.bG _ y) (λaI=>M) (λr u w C q=>M) (λr u w C q=>?_);obtain⟨ai,az,aN⟩:=O r u w C q;rw[az];exact aN.mono aq
 have aK:(aM++[an.h W i k T]).set (c aM) .x=aM++[.x]:=E;obtain⟨aj,J⟩:=p.b7 (cd:=cd) (bi:=b.a) (d':=.x) (cn:=⟨L.v,[]⟩) aE X v (bC _) (λ_ _ _=>rfl) (λj _ o d=>N j o d) ak z E rfl rfl rfl v;rw[aK]at aj J;have ag:=aj.drop (bs:=[.x]) aw;refine⟨_,ag,⟨a,ak,λj o d=>N j (o L (b9 X)) d,z,λj o=>?_⟩,⟨λg ar Q aO=>?_,λg e d A Q F aa=>aB g e d A Q F aa⟩,λ{t R} ah V=>(ah.trans (J.too1 p)).drop (bs:=[.x]) V⟩
 .rcases o with o|⟨cn,Y,o⟩
  .exact .inl o
  have:=hf Y;grind
 exact(Q.mono J.ext p.len).drop (bs:=[.x]) aO
end
def bk.bM{C:aj P}{D}{args}{b:ι->z}{aM:ι->m an}{W i}{k:ι->Nat}{T:ι->Nat->m N}(E:bk C D args p res (λa=>aM a++[.h W i (k a) (T a)])){j:ι->m Prop}(M:∀a,uU (c (aM a)) i (k a) (T a) (res a)=h (b a,j a))(K:∀a,U (j a))(J:∀a,kk (c (aM a)) (aM a)=f)(I:∀a,c p<=c (aM a)):bk C D args p b aM:=by refine⟨E.1,λO B x v F s u=>E.2 O B x v F s λa t R Q w d g A=>?_⟩;obtain⟨y,o,e,q,r⟩:=g.eY (J a);exact .aU e (u a t R y (w.mono e.mem) (q.c9 (M a) (K a) d) o (r A (I a)))
def Y.bM{P:aI}{b:aj P}{d}{args}{p}{res a}{aM}{W i k}{T:Nat->m N}(q:Y b d args p res (aM++[.h W i k T])){ab}(o:uU (c aM) i k T res=h (a,ab))(j:U ab)(g:kk (c aM) aM=f)(e:c p<=c aM):Y b d args p a aM:=
 (bk.bM (ι:=Unit) q.tocD (λ_=>o) (λ_=>j) (λ_=>g) (λ_=>e)).toY
section
def XT(u:t.op=.call {callee:=.builtin .clear,args:=#[o],argTypes:=#[q]})(a:aB->Z):
  ac a t=(do pure (.value (<-Builtin.clear_ #[q] t.type #[a o]))):=Rn
def ae0{a:Z}{b}{i}(m:a.cells.toList.map lH=b.map h)(e:c b=i):eZ bB i A (λ_=>b) (Builtin.zeroCells a.cells A).toList:=by
 have k:a.cells.size=i:=by have:=eK List.length m;grind
 have s:bN [] ⟨[],bB,default,λ_=>False⟩ a.cells.toList (b.map O.c):=uo m;refine⟨by simp[Builtin.zeroCells,k],λ_ _=>e,λg d w p B=>?_⟩;have v:w<i:=M;obtain⟨j,u,t⟩:=s.get (w:=w) (x:=O.c p) M;refine⟨j,?_,t⟩;have r:g*i+w<A*i:=by
  have:g*i+i<=A*i:=by rw[<-o4];exact gX i d
  omega
 have o:(g*i+w) % i=w:=by grind[Nat.add_mul_mod_self_right,Nat.mod_eq_of_lt]
 have z:w<a.cells.size:=y;have C:a.cells[w]=j:=M;have q:a.cells[w]! = j:=M;simp[Builtin.zeroCells,k,r,o,q]
def a0.eW(aR:bn P ad)(aS:t.op=.call {callee:=.builtin .clear,args:=#[o],argTypes:=#[q]}){e}(U:bZ ad q=h e)(aM:e.desc=.slice W)(R:bZ ad W=h a4){b}{z}(aa:η o=cz d (.S k a4.size b A))(s:p[d]?=h (.h z a4.size k T))(an:b+A<=k):
  a0 P t η p .any (p.set d (.h z a4.size k (nK b (b+A) a4.zero T))):=by
 intro u ak r X;have m:=X o;rw[aa]at m;change cx p u (ak o) (.R d _)at m;obtain⟨aU,⟨aw,aO,az,aQ,Z,aB,aD,aE,aN,aK⟩,_,G⟩:=m;obtain⟨L,J,ag⟩:=(G _ _ _ _ s).2 rfl;rw[aN]at ag;have C:=(aR q e U).eO;rw[aM]at C;rw[XT aS,Z];by_cases V:A=0
 .subst V;have ab:nK b (b+0) a4.zero T=T:=by funext w;simp only[nK];grind
  have Y:p.set d (.h z a4.size k T)=p:=mY;rw[ab,Y];refine⟨.value (.tuple #[]),u,?_,v,r,.refl _ _,?_⟩
  .cases aw<;>simp[Builtin.clear_,run_underlying C]
  intro j g;cases aw<;>simp[Builtin.clear_,run_underlying C,aH]at g
 obtain⟨ax,rfl,rfl⟩:=aK y;rcases r.box d _ L s J with⟨_,rfl⟩|⟨aP,g1,B,F,rfl,K,aJ,ar,aL,av,ao⟩
 .cases ag
 cases ag;obtain⟨aI,i,au,aW,aX,aq,ai,aZ,aj⟩:=(aR W a4 R).c';have ae:=ae0 (bB:=u.u) (A:=A) ai aj;have a1:=ae.len;have aG:=av.len;have aT:b*a4.size+A*a4.size<=k*a4.size:=by rw[<-jD];exact gX _ an
 have D:=av.hO ae an;have S:(λe=>if b<=e/\e<b+A then(λ_=>a4.zero) (e-b)else T e)=nK b (b+A) a4.zero T:=rfl;rw[S]at D;obtain⟨ah,a⟩:=r.gz s J aJ ar aL K D M ao;have aA:=ae.cell;have Q:=run_storeCells_at P ax (b*a4.size) z (Builtin.zeroCells i.cells A).toList 0 (B++F).toArray u.a K M aA;have N:((B++F).toArray.toList.take (b*a4.size+0)++(Builtin.zeroCells i.cells A).toList++(B++F).toArray.toList.drop (b*a4.size+0+(Builtin.zeroCells i.cells A).toList.length))=B.take (b*a4.size)++(Builtin.zeroCells i.cells A).toList++B.drop (b*a4.size+(Builtin.zeroCells i.cells A).toList.length)++F:=M;rw[N]at Q;have O:∀x,(zeroValue W).run P x=.ok i x:=λx=>by simp[zeroValue,typeInfo,au,aq]
 have H:∀x T,(zeroValue W).events P x T=T:=λx T=>by simp[zeroValue,typeInfo,au,aq,aH]
 obtain⟨I,rfl⟩:∃I,A=I+1:=⟨A-1,by omega⟩
 refine⟨.value (.tuple #[]),_,?_,v,ah,a,?_⟩
 .simp[Builtin.clear_,run_underlying C,O,Q]
 intro j g;have aV:j∈(storeCells ⟨ax,b*a4.size,n⟩ (Builtin.zeroCells i.cells (I+1)).toList).events P u.a #[]:=by simp only[Builtin.clear_,aH,j7,m8]at g;simpa[run_underlying C,O,H,Q]using g
 rcases nh (Builtin.zeroCells i.cells (I+1)).toList 0 (B++F).toArray u.a #[] K M aA j aV with aF|⟨w,_,_,rfl⟩
 .grind
 exact og (b9 J) E (ao _)
end
section
variable {r:aj P}
theorem g.hh{i}(J:∀e j,bY D p e F j->bb p e->∃a:a5,a.a=e.a/\bY D ao a i j/\bb ao a/\cN p e ao a)(N:g r D be (.ae all bs::ar) .normal i ao):g r D be (.ae all bs::ar) .normal F p:=by intro e j M b B v q A idx u d t;obtain⟨a,K,C,y,x⟩:=J e j M b;have z:=x.too1 b;refine .aU (.of b y K z) ?_;exact N a j C y B v q A idx u d λE m w o O I s k=>t E m w o O I s (z.trans k)
def g.dJ(q)(W i)(dI:Nat->m N){e}{s:Nat->m N}(u:look F q=ax (.S f e 0 s))(j:g r D be (.ae all bs::ar) .normal ((q,cz (c p) (.S 0 i 0 0))::F) (p++[.h W i 0 dI])):g r D be (.ae all bs::ar) .normal F p:=by
 refine g.hh (λk v a bP=>?_) j;have C:=a.aH q;rw[u]at C;obtain⟨t,b⟩:=bP.b0 (bX:=.h W i 0 dI) (L:=⟨.slice n 0 0,[]⟩) (.refl _ _) rfl bP (.inl ⟨rfl,rfl⟩) E;refine⟨{k with l:=k.l++[⟨.slice n 0 0,[]⟩]},rfl,⟨a.size,a.defers.imp λ_ d=>d.mono b.ext,λo=>?_⟩,t,b⟩;simp only[look];cases cT:af q o with
 |false=>exact(a.aH o).mono b.ext bP.len
 |true=>
  exact PZ
def g.et(aR:bn P ad){C w}(Q:t.op=.binOp .eql q o (.const (.slice n C w)) ty){e}(E:bZ ad q=h e)(ai:e.desc=.slice W){eR}{i}(V:bF F o=ax (.S eR i k T))(X:t.guard=n)(N:fd D t.dst=f)(J:∀j:Bool,(j=f->k=0)->g r D be (.ae all bs::ar) .normal (fT t.dst (ax (.bool j)) F) p):g r D be (.ae all (t::bs)::ar) .normal F p:=by
 refine g.cI (ι:={j:Bool // j=f->k=0}) (λj=>ax (.bool j.1)) (λ_=>p) X N (λs M U A=>?_) λj=>J j.1 j.2;have x:=eL U o;rw[V]at x;obtain⟨b,d,B,x,_,_,_,_,I⟩:=(b7 x).b1;have z:=(aR q e E).eO;rw[ai]at z;have S:=b7 (by have:=eL U o;rw[V]at this;exact this);have ah:b.isNone=f->k=0:=by
  intro ae;rw[x]at S;cases S with
  |S j R aj ak aa ag ab Z I m=>
   grind
 refine⟨⟨b.isNone,ah⟩,.value (.bool b.isNone),s,.bool b.isNone,?_,.inl a,Rd.bool,A,.refl _ _,?_⟩
 .have m:(binOp .eql q (.slice b k d) (.slice n C w)).run P s.a=.ok (.bool b.isNone) s.a:=Go.Lib.run_eql_slice_nil s.a q W b k d C w z;have K:∀y,eqGuard .eql q o y (.slice b k d) (.slice n C w)=pure ():=λy=>by simp[eqGuard]
  have v:M.eval (.const (.slice n C w))=.slice n C w:=rfl;simp[ac,Q,x,v,K];simp[m]
 have O:∀T,(Op.equal q (.slice b k d) (.slice n C w)).events P s.a T=T:=λT=>by show(aQ (9999+1) q _ _).events P s.a T=T;unfold aQ;cases b<;>simp[underlying,z]
 have m:(Op.equal q (.slice b k d) (.slice n C w)).run P s.a=.ok b.isNone s.a:=by show(aQ (9999+1) q _ _).run P s.a=_;grind[Go.Lib.run_equalIn_slice_nil]
 have K:∀y,eqGuard .eql q o y (.slice b k d) (.slice n C w)=pure ():=λy=>by simp[eqGuard]
 have v:M.eval (.const (.slice n C w))=.slice n C w:=rfl;intro Y u;exfalso;simp[ac,Q,x,v,K,binOp]at u;simp[m,O,aH]at u
end
def fN(a:m UInt8):m Z:=a.map λb=>.int .u8 b.toNat
theorem MZ{ag}:c (fN ag)=c ag:=by simp[fN]
def aep{ag j}:fN (ag++j)=fN ag++fN j:=by simp[fN]
def jG(b:Option (Nat×Nat))(e:Nat):Z:=match b with|none=>.slice n 0 0|some (d,a)=>.slice (h ⟨d,0,n⟩) e a
def eE(s r:av)(t:Bool)(i:Z)(j:Option (Nat×Nat))(b:m UInt8)(p:Nat):Z->(Nat->Option Obj)->Prop:=λq d=>
 ∃g,q=.pointer (h ⟨g,0,n⟩)/\dW i=f/\d g=h (.cells #[if t then q else .pointer n,i] s (0,0)) /\
 match j with
 |none=>b=[]/\∀e,(d e).isSome=f↔e=g
 |some (k,a)=>k≠g/\c b<=a/\0<a/\a<=9223372036854775807/\p<=c b/\(∃o,c (fN b++o)=a/\d k=h (.cells (fN b++o).toArray r (0,p)))/\∀e,(d e).isSome=f↔e=g∨e=k
section
variable {r:aj P}{i:m (Nat×bv)}{ad:av}{x:Bool}{v1:Z}{bO:Option (Nat×Nat)}{ag:m UInt8}{ae:Nat}
structure mZ(P:aI)(p:m an)(b:a5)(d:Nat)(ad W:av)(x:Bool)(v1:Z)(bO:Option (Nat×Nat))(ag:m UInt8)(ae:Nat)(L:Loc)(j:Nat)(cF:Nat->Option Obj):Prop where
 l:b.l[d]?=h L
 v:L.v=.pointer (h ⟨j,0,n⟩)
 f_:eE ad W x v1 bO ag ae L.v cF
 heap:∀(j:Nat) (t:Obj),cF j=h t->b.a.heap[j]?=h t
 al:∀j,j∈L.al↔(cF j).isSome=f
 u:∀j∈L.al,∀t,b.u j t=n
 cF:cF j=h (.cells #[if x then L.v else .pointer n,v1] ad (0,0))
 cell:dW v1=f
def eE.row(bP:bb p b)(m:p[d]?=h (.J (eE ad W x v1 bO ag ae))):∃L e a,mZ P p b d ad W x v1 bO ag ae L e a:=by have q:d<c b.l:=hY;have g:=bI q;generalize b.l[d]=L at g;obtain⟨a,o,i,j,t⟩:=bP.box d _ L m g;have r:=o;obtain⟨e,s,u,k,_⟩:=r;exact⟨L,e,a,g,s,o,i,j,t,k,u⟩
def mZ.mem{L}(a:mZ P p b d ad W x v1 bO ag ae L j k8):j∈L.al:=(a.al j).2 (by rw[a.cF];rfl)
def mZ.ptr{L}(g:mZ P p b d ad W x v1 bO ag ae L j k8)(i:bx p b aa (aG d off)):aa=.pointer (h ⟨j,off,n⟩):=by obtain⟨_,k,m,a,e,rfl⟩:=(i:cx p b aa (.ptr d off));rw[g.l]at a;cases a;rw[g.v]at e;grind
def AZ(aR:bn P i){e}(w:t.op=.load q o)(r:bZ i q=h e)(C:e.agg=l)(N:p[d]?=h (.J (eE ad W x v1 bO ag ae))){v}(E:η o=aG d off)(O:∀a L b g,bb p a->mZ P p a d ad W x v1 bO ag ae L b g->∃m,(#[if x then L.v else .pointer n,v1]:Array Z)[off]?=h m/\bx p a m v):a0 P t η p v p:=by
 refine .du λa s B G=>?_;obtain⟨L,b,g,j⟩:=eE.row (P:=P) B N;have A:=j.ptr (by have:=G o;rwa [E]at this);obtain⟨m,H,Q⟩:=O a L b g B j;have I:a.a.cell? ⟨b,off,n⟩=h m:=by simp only[aL,j.heap _ _ j.cF];grind
 have u:(loadVar q ⟨b,off,n⟩).run P a.a=.ok m a.a:=by simp[loadVar,(aR q e r).ep,C,run_load,I]
 refine⟨m,by simp[ac,w,A,Instr.loadAt,Instr.sureAddr,u],Q,λz y=>?_⟩;have K:z∈(loadVar q ⟨b,off,n⟩).events P a.a #[]:=by
  have F:ac s t=(do pure (.value (<-loadVar q ⟨b,off,n⟩))):=by simp[ac,w,A,Instr.loadAt,Instr.sureAddr]
  rw[F]at y;simpa[u]using y
 obtain⟨J,D,rfl⟩:=pd (aR q e r) (k:=1) (λJ D=>by grind) M z K;exact qp (b9 j.l) j.mem
def a0.eS(aR:bn P i){e}(m:t.op=.load q o)(a:bZ i q=h e)(g:e.agg=l)(b:p[d]?=h (.J (eE ad W x v1 bO ag ae)))(k:η o=aG d 1):a0 P t η p (cM v1) p:=
 AZ aR m a g b k λv L u j r s=>⟨v1,by simp,Rd.val s.cell⟩
def aaL(e:p[d]?=h (.J H)):∀a,p[d]?=h a->a.dN=l:=by intro a b;rw[e]at b;cases b;rfl
def a0.gJ(aR:bn P i){e}(s:t.op=.load q o)(b:bZ i q=h e)(k:e.agg=l)(a:p[d]?=h (.J (eE ad W f v1 bO ag ae)))(r:η o=aG d 0):a0 P t η p (aG d 0) p:=
 AZ aR s b k a r λv L j m u g=>⟨L.v,by simp,aaL a,L,j,g.l,g.v,g.v⟩
def a0.il(aR:bn P i){e}(m:t.op=.load q o)(a:bZ i q=h e)(j:e.agg=l)(b:p[d]?=h (.J (eE ad W l v1 bO ag ae)))(k:η o=aG d 0):a0 P t η p (ax .bk) p:=
 AZ aR m a j b k λv L s g r u=>⟨.pointer n,by simp,Rd.bk⟩
def setRow_size(a:au)(j)(row):(a.setRow j row).heap.size=a.heap.size:=by simp[World.setRow]
def GC(aR:bn P i){e}(ab:t.op=.store q o X)(A:bZ i q=h e)(z:e.size=1)(Y:p[d]?=h (.J (eE ad W x v1 bO ag ae))){s}{u}(Q:η o=aG d off)(K:off<2)(F:dW u=f)(I:∀m L j r y,bb p m->mZ P p m d ad W x v1 bO ag ae L j r->bx p m y (η X)->dW y=f/\(#[if x then L.v else .pointer n,v1]:Array Z).setIfInBounds off y=#[if s then L.v else .pointer n,u]):a0 P t η p .any (p.set d (.J (eE ad W s u bO ag ae))):=by
 intro m b E aa;obtain⟨L,j,r,k⟩:=eE.row (P:=P) E Y;have G:=k.ptr (by have:=aa o;rwa [Q]at this);obtain⟨N,H⟩:=I m L j r (b X) E k (aa X);have aj:(b X).cells=#[b X]:=by cases D:b X<;>simp[D,dW,Value.cells]at N⊢
 have an:∀y∈[b X],y.oneCell'=f:=by intro y G;simp at G;subst G;cases D:b X<;>simp[D,dW,Value.oneCell']at N⊢
 have R:=k.heap _ _ k.cF;have S:=run_storeCells_at P j off ad [b X] 0 _ m.a R M an;have O:((#[if x then L.v else .pointer n,v1]:Array Z).toList.take (off+0)++[b X]++(#[if x then L.v else .pointer n,v1]:Array Z).toList.drop (off+0+[b X].length)).toArray=#[if s then L.v else .pointer n,u]:=by
  rw[<-H]
  match off,K with
  |0,_=>grind
  |1,_=>grind
 rw[O]at S;have az:(m.a.setRow j #[if s then L.v else .pointer n,u]).heap[j]?=h (.cells #[if s then L.v else .pointer n,u] ad (0,0)):=setRow_heap m.a j _ _ ad _ R;have ak:∀g,g≠j->(m.a.setRow j #[if s then L.v else .pointer n,u]).heap[g]?=m.a.heap[g]?:=λg w=>setRow_other m.a j g _ w;obtain⟨V,aN⟩:=E.b_ (d:=d) (j5:=eE ad W s u bO ag ae) (cn:=L) (bi:=m.a.setRow j #[if s then L.v else .pointer n,u]) Y k.l rfl (by rw[setRow_size];grind)
  (λg w J=>ak g (by rintro rfl;exact J k.mem)) (λg w=>.inl w)
  ⟨λg=>if g=j then h (.cells #[if s then L.v else .pointer n,u] ad (0,0))else r g,by
   obtain⟨C,U,au,av,aw⟩:=k.f_;have:C=j:=by rw[k.v]at U;grind
   subst this;have ax:∀g,(if g=C then h (Obj.cells #[if s then L.v else .pointer n,u] ad (0,0))else r g).isSome=f↔(r g).isSome=f:=M;refine⟨C,U,F,by simp,?_⟩;grind,λg ar w=>by
   by_cases v:g=j
   .grind
   .simp only[v,dh]at w;rw[ak g v];exact k.heap _ _ w,λg=>by
   rw[k.al g];by_cases v:g=j
   .subst v;simp[k.cF]
   grind⟩ a a a
 have ao:m.l.set d L=m.l:=by
  apply p';intro ai;by_cases v:d=ai
  .subst v;rw[im (cO.1 k.l).1,k.l]
  grind
 rw[ao]at V aN;refine⟨.skip,{m with a:=m.a.setRow j #[if s then L.v else .pointer n,u]},?_,rfl,V,aN,?_⟩
 .simp[ac,ab,G,Instr.storeAt,Instr.sureAddr,storeVar,(aR q e A).bb,z,aj,S]
 intro T B;have v:ac b t=(do storeVar q ⟨j,off,n⟩ (b X);pure .skip):=by simp[ac,ab,G,Instr.storeAt,Instr.sureAddr]
 rw[v]at B;have aq:T∈(storeCells ⟨j,off,n⟩ [b X]).events P m.a #[]:=by
  simp only[storeVar,aH,(aR q e A).bb,aj,z,aJ,events_sizeOf,dZ,hr,dh,cH,c1,Sem.events_pure,List.size_toArray,gW]at B;generalize(storeCells ⟨j,off,n⟩ [b X]).run P m.a=k at B;cases k with
  |ok y bi=>simpa using B
  |halt o bi=>simpa using B
 rcases nh [b X] 0 _ m.a #[] R M an T aq with ah|⟨ai,_,_,rfl⟩
 .grind
 exact og (b9 k.l) k.mem (k.u _ k.mem _)
def a0.gf(aR:bn P i){e}(m:t.op=.store q o X)(a:bZ i q=h e)(k:e.size=1)(b:p[d]?=h (.J (eE ad W x v1 bO ag ae))){s}(w:η o=aG d 1)(u:η X=cM s)(v:dW s=f):a0 P t η p .any (p.set d (.J (eE ad W x s bO ag ae))):=
 GC aR m a k b w y v λB L z j C r A g=>by rw[u]at g;have:=Rd.bd g;grind
def a0.iq(aR:bn P i){e}(u:t.op=.store q o X)(b:bZ i q=h e)(m:e.size=1)(g:p[d]?=h (.J (eE ad W x v1 bO ag ae)))(z:η o=aG d 0)(s:η X=aG d 0)(w:dW v1=f):a0 P t η p .any (p.set d (.J (eE ad W f v1 bO ag ae))):=
 GC aR u b m g z y w λB L A r C v k j=>by rw[s]at j;have:=k.ptr j;subst this;refine⟨a,?_⟩;rw[<-k.v];rfl
def a0.ie{ad}(o:t.op=.alloc ad)(q:∀k,(zeroValue ad).run P k=.ok (.agg #[.pointer n,.slice n 0 0]) k)(u:∀k g,(zeroValue ad).events P k g=g):a0 P t η p (aG (c p) 0) (p++[.J (eE ad W l (.slice n 0 0) n [] 0)]):=by
 intro b B bP v;let bi:=b.a.alloc (.cells #[.pointer n,.slice n 0 0] ad);obtain⟨y,w⟩:=bP.cY (cd:=b.u) (bi:=bi) (by simp[bi]) (λs i=>iQ b.a _ i) (λ_ _ _=>rfl) (λs i t A e=>by have:=bP.block e;omega) rfl rfl rfl;have D:bi.heap.size=b.a.heap.size+1:=by simp[bi]
 have C:bi.heap[b.a.heap.size]?=h (.cells #[.pointer n,.slice n 0 0] ad (0,0)):=lV b.a _;obtain⟨z,x⟩:=y.b0 w rfl bP (bX:=.J (eE ad W l (.slice n 0 0) n [] 0)) (L:=⟨.pointer (h ⟨b.a.heap.size,0,n⟩),[b.a.heap.size]⟩)
  ⟨λd=>if d=b.a.heap.size then h (.cells #[.pointer n,.slice n 0 0] ad (0,0))else n,⟨b.a.heap.size,rfl,rfl,by simp,rfl,λd=>by by_cases m:d=b.a.heap.size<;>simp[m]⟩,λd r j=>by
   grind,λd=>by by_cases m:d=b.a.heap.size<;>simp[m],λd j r=>by
   simp at j;subst j;show b.u _ _=n;cases e:b.u b.a.heap.size r with
   |none=>rfl
   |some A=>have:=bP.block e;omega⟩ (λd j=>by grind)
 refine⟨.value (.pointer (h ⟨b.a.heap.size,0,n⟩)),_,?_,⟨by simp,⟨.pointer (h ⟨b.a.heap.size,0,n⟩),[b.a.heap.size]⟩,b.a.heap.size,?_,a,a⟩,z,x,?_⟩
 .simp[ac,o,Instr.alloc,q,Go.newVar,newRow,Value.cells,bi]
 .exact t'
 simp[ac,o,Instr.alloc,q,u,Go.newVar,newRow];exact .nil
end
end Go.AM
