/- Part 2. No condition. -/
import Derived.Test.YtnaddfhedinfmaaGreatDoorA1
import Derived.Test.YtnaddfhedinfmaaGreatDoorProg
import Derived.MapKept
import Derived.Maps.RangeRun
import Derived.Laws.MakeOwn
import Derived.Lib.SliceRun
import Derived.Lib.FrozenHead
import Derived.Lib.UnsafeStr
import Derived.Lib.MakeNoZero
set_option linter.all false
set_option maxHeartbeats 8000000
open Go.Proofs
open Go.Proofs.Tryz
open Go.Conc (G)
open List renaming length → c, range → aD, getD_eq_getElem?_getD → al
open Go renaming Value → Z, TypeId → av, Event → aU, undef → K, World → au, Frame → aK, FuncId → a3, execOp → ac, Operand → aA, Program → aI, Goroutine → ak, stepG → aq, Oper → ap
open Option renaming some → h, none → q
open Bool renaming true → f, false → m
open Nat renaming beq → af, ble → ay
open Go.Region renaming wanted → aV, ready → aS
open Go.World renaming cell? → aN
open Go.Sem renaming events_bind → aH
open Go.Result renaming evThen_ok → aJ
open Go.Instr renaming sliceBounds → aX
open Go.Op renaming equalIn → aR
open Go.Proofs.Tryz renaming prog → V
namespace Go.AM
variable {k A:Nat}{i:Int}{d j e w:Nat}{W:av}{H:Z->(Nat->Option Obj)->Prop}{L:Array Bool}{bB:Mem}{D:Nat}{P:aI}{bq:ak->a5->Prop}{s:Code}{C:ak}{t:ap}{b:a5}{o:av}{aa:Z}{l X:aA}{α:Type}{η:aA->z}{ι:Type}{n:p an}{F:bH}{all:p ap}{dn:Array av}{cap:p N}{cR:p z}{k6:Nat->Option Obj}{ah:p aK}{bg:p (Nat×Bool)}{T:Nat->p N}{cP:aA}{gs:Array ak}{aO:p Nat}{cf:p Prop}{off:Nat}{op:BinOp}{aC:Array ap}{ab:p Prop}{br:p ap}{az:a5}{ty:av}{val:Nat->Nat->Z}{B:p Z}{bh:au}{ag:Array aA}{ao dd:p an}{res:ι->z}{aL:ι->p an}
section force
variable {R:Type}
def u4:N->(N->Option R)->Option R
 |.int g i,a=>a (.int g i)
 |.bool e,a=>a (.bool e)
 |.V n,a=>a (.V n)
 |.S f g i d,a=>a (.S f g i d)
 |.S m g i d,a=>a (.S m g i d)
 |.O b,a=>eS b λb=>a (.O b)
 |.cD o b,a=>eS b λb=>a (.cD o b)
 |.fn l j e,a=>eS j λj=>eS e λe=>a (.fn l j e)
 |k,a=>a k
def X4(s)(b:N->Option R):u4 s b=b s:=by
 cases s with
 |S d=>cases d<;>rfl
 |O a=>simp[u4,hq]
 |cD d a=>simp[u4,hq]
 |fn i e g=>simp[u4,hq]
 |_=>rfl
def u3:O->(O->Option R)->Option R
 |.c k,a=>u4 k λk=>a (.c k)
 |.ptr b j,a=>a (.ptr b j)
 |.r b d i e,a=>a (.r b d i e)
 |.aQ b,a=>a (.aQ b)
 |.R b (.S g d j i),a=>a (.R b (.S g d j i))
 |.R b (.bx g d n l),a=>a (.R b (.bx g d n l))
 |.any,a=>a .any
def Jd(a)(b:O->Option R):u3 a b=b a:=by
 cases a with
 |R e d=>cases d<;>simp[u3]
 |_=>simp[u3,X4]
def ya:p O->(p O->Option R)->Option R
 |[],b=>b []
 |a::d,b=>u3 a λa=>ya d λd=>b (a::d)
def X3(d)(a:p O->Option R):ya d a=a d:=by
 induction d generalizing a with
 |nil=>rfl
 |cons e g b=>simp[ya,Jd,b]
def yc:E1->(E1->Option R)->Option R
 |.aq b,d=>u3 b λb=>d (.aq b)
 |.agg a,d=>ya a λa=>d (.agg a)
def Je(a)(b:E1->Option R):yc a b=b a:=by cases a<;>simp[yc,Jd,X3]
def yd:p E1->(p E1->Option R)->Option R
 |[],b=>b []
 |a::d,b=>yc a λa=>yd d λd=>b (a::d)
def X5(d)(a:p E1->Option R):yd d a=a d:=by
 induction d generalizing a with
 |nil=>rfl
 |cons e g b=>simp[yd,Je,b]
def o':z->(z->Option R)->Option R
 |.q d,b=>yc d λd=>b (.q d)
 |.Q a,b=>yd a λa=>b (.Q a)
 |.any,b=>b .any
theorem u5(a)(b:z->Option R):o' a b=b a:=by cases a<;>simp[o',Je,X5]
end force
def qJ:z->Option (Bool×Nat×Nat×(Nat->p N))
 |.q (.aq (.c (.S e b d a)))=>h (e,b,d,a)
 |.q (.aq (.r _ b d a))=>h (m,b,d,a)
 |_=>q
theorem tB{d}{o}{i}(a:qJ d=h (o,i,k,T))(n)(b)(aa)(e:bx n b aa d):Rd b.u aa (.S o i k T):=by
 unfold qJ at a;split at a
 .cases a;exact e
 .cases a;exact e.1
 grind
def kF(b:p UInt8)(a:Int):UInt8:=b.getD a.toNat 0
def C2(b:p (Nat×bv))(i:av)(a:z):Option z:=
 match bW b i with
 |none=>q
 |some d=>match d.desc with
  |.slice _=>match qJ a with
   |some (_,_,e,_)=>h (ax (.int .i64 e))
   |none=>q
  |.string=>match a with
   |.q (.aq (.c (.V g)))=>h (ax (.int .i64 (c g)))
   |_=>q
  |_=>q
def BM(d:p (Nat×bv))(n l:av)(b:z):Option (z×p Prop):=
 match bW d n with
 |none=>q
 |some g=>match bW d l with
  |none=>q
  |some cc=>match cc.desc with
   |.int a=>match b with
    |.q (.aq (.c (.int _ j)))=>h (ax (.int a j),[a7 a j])
    |_=>q
   |.string=>match b with
    |.q (.aq (.c (.V t)))=>h (ax (.V t),[])
    |b=>match g.desc with
     |.slice k=>match bW d k with
      |some i=>match i.desc with
       |.int .u8=>match qJ b with
        |some (_,o,r,e)=>match af o 1 with
         |true=>match uI e 0 r with
          |some s=>h (ax (.V s),[])
          |none=>q
         |false=>q
        |none=>q
       |_=>q
      |none=>q
     |_=>q
   |_=>q
def DZ(k:p (Nat×bv))(a:aA->z)(u:av)(o:aA)(j i:Option aA):Option (z×p Prop):=
 match bW k u with
 |none=>q
 |some s=>match kE a j with
  |none=>q
  |some d=>match kE a i with
   |none=>q
   |some e=>match s.desc with
    |.string=>match a o with
     |.q (.aq (.c (.V n)))=>h (ax (.V (mo n d e)),jc (c n) d e)
     |_=>q
    |.slice r=>match bW k r with
     |none=>q
     |some b=>match qJ (a o)with
      |some (eP,t,l,g)=>match af t b.size with
       |true=>h (ax (.S (xE eP e) b.size (bS l e-bS 0 d) (fw (bS 0 d) g)),jc l d e)
       |false=>q
      |none=>q
    |_=>q
def sC(d:BinOp)(e:IntKind)(g:Int)(b:IntKind)(i:Int):Option (z×p Prop):=
 match uD d e g b i with
 |some (j,a)=>h (ax (.int e j),a)
 |none=>q
theorem R5{i a}{b j}{e}(g:sC op i b a j=h (e,cf)):∃d,e=ax (.int i d)/\uD op i b a j=h (d,cf):=by unfold sC at g;grind
def Gi(r:p (Nat×bv))(e:BinOp)(s:av)(u v:z):Option (z×p Prop):=
 match u,v with
 |.q (.aq (.c (.bool b))),.q (.aq (.c (.bool a)))=>match bW r s with
  |some o=>match o.desc with
   |.bool=>match h6 e (b==a)with
    |some g=>h (ax (.bool g),[])
    |none=>q
   |_=>q
  |none=>q
 |.q (.aq (.c b)),.q (.aq (.c a))=>match e with
  |.xor=>match b,a with
   |.int .i64 b,.int .i64 a=>h (ax (.int .i64 ((b.toNat ^^^ a.toNat:Nat):Int)),[0<=b,0<=a])
   |.int .u64 b,.int d a=>sC .xor .u64 b d a
   |_,_=>q
  |.shl=>match b,a with
   |.int i b,.int d a=>sC .shl i b d a
   |_,_=>q
  |.shr=>match b,a with
   |.int i b,.int d a=>sC .shr i b d a
   |_,_=>q
  |.and=>match b,a with
   |.int i b,.int d a=>sC .and i b d a
   |_,_=>q
  |_=>match xa e b a with
   |some (g,j)=>h (ax g,j)
   |none=>q
 |.q (.agg k),.q (.agg n)=>match bW r s with
  |some o=>match o.eq with
   |[]=>q
   |t::l=>match qe (t::l) k n with
    |some a=>match h6 e a with
     |some g=>h (ax (.bool g),[])
     |none=>q
    |none=>q
  |none=>q
 |_,_=>q
def yH(e:p (Nat×bv))(A:p (Nat×bK))(a:bH)(O:ap):Option (z×p Prop):=
 match O.op with
 |.move l|.assign l=>h (bF a l,[])
 |.index b l x=>match bW e b with
  |some k=>match k.desc with
   |.string=>match bF a l,bF a x with
    |.q (.aq (.c (.V s))),.q (.aq (.c (.int _ i)))=>h (ax (.int .u8 (kF s i).toNat),[0<=i,i<c s])
    |_,_=>q
   |_=>q
  |none=>q
 |.indexAddr b l x=>match bW e b with
  |some k=>match k.desc with
   |.slice M=>match bW e M with
    |some I=>match qJ (bF a l),bF a x with
     |some (_,n,y,o),.q (.aq (.c (.int _ i)))=>match af n I.size with
      |true=>h (ax (.O (o i.toNat)),[0<=i,i<y])
      |false=>q
     |_,_=>q
    |none=>q
   |_=>q
  |none=>q
 |.slice b l J F q=>DZ e (bF a) b l J F
 |.convert w dst l=>BM e w dst (bF a l)
 |.call g=>match g.callee with
  |.builtin .len=>match g.args.toList,g.argTypes[0]? with
   |[l],h b=>match C2 e b (bF a l)with
    |some N=>h (N,[])
    |none=>q
   |_,_=>q
  |.value E=>Bz A a E g.args.toList
  |_=>q
 |.pick g t u=>match bF a g with
  |.q (.aq (.c (.bool f)))=>h (bF a t,[])
  |.q (.aq (.c (.bool m)))=>h (bF a u,[])
  |_=>q
 |.binOp r b l x _=>Gi e r b (bF a l) (bF a x)
 |.unOp r _ l=>match bF a l with
  |.q (.aq (.c t))=>match zr r t with
   |some g=>h (ax g,[])
   |none=>q
  |_=>q
 |.extract l i=>match bF a l with
  |.Q K=>match c6 i K with
   |some v=>h (.q v,[])
   |none=>q
  |_=>q
 |.fieldAddr b l D=>match lb e b D with
  |some (n,_)=>match bF a l with
   |.q (.aq (.ptr s j))=>h (aG s (j+n),[])
   |.q (.aq (.c (.O d)))=>h (ax (.O (fQ n d)),[])
   |_=>q
  |none=>q
 |.field b l D=>match lb e b D with
  |some (n,i)=>match bF a l with
   |.q (.agg d)=>match g' i (fQ n d)with
    |some v=>h (.q v,[])
    |none=>q
   |_=>q
  |none=>q
 |.nilCheck l=>match bF a l with
  |.q (.aq (.ptr s j))=>h (aG s j,[])
  |.q (.aq (.c (.O d)))=>h (ax (.O d),[])
  |_=>q
 |.build b parts=>match xe e (bF a) b parts.toList with
  |some d=>h (.q (.agg d),[])
  |none=>q
 |.buildSlice b y parts=>match rK e (bF a) b y parts.toList with
  |some (n,o)=>h (ax (.S f n y λk=>o.getD k []),[])
  |none=>q
 |.makeFunc fn t u=>match rq (bF a) t.toList with
  |some B=>match rq (bF a) u.toList with
   |some C=>h (ax (.fn fn B C),[])
   |none=>q
  |none=>q
 |.makeInterface b l=>match bW e b with
  |some k=>match ve k.desc with
   |false=>match yz b (bF a l)with
    |some g=>h (ax g,[])
    |none=>q
   |true=>q
  |none=>q
 |.typeAssert l _ b f=>match bW e b with
  |some k=>match ve k.desc with
   |false=>match bF a l with
    |.q (.aq (.c g))=>match sA b k g with
     |some (v,u)=>h (.Q [v,.aq (.c (.bool u))],[])
     |none=>q
    |_=>q
   |true=>q
  |none=>q
 |_=>q
def C6(i:p (Nat×bv))(g:bH)(j:p an)(l:av)(n:aA):Option z:=
 match bW i l with
 |some e=>match bF g n with
  |.q (.aq (.ptr k b))=>match c6 k j with
   |some (.cells _ a)=>match g' e (fQ b a)with
    |some d=>h (.q d)
    |none=>q
   |_=>q
  |.q (.aq (.c (.O a)))=>match g' e (a.map O.c)with
   |some d=>h (.q d)
   |none=>q
  |_=>q
 |none=>q
def Dk(l:p (Nat×bv))(b:bH)(J:ap):Option (z×p Prop):=
 match J.op with
 |.indexAddr k g w=>match bW l k with
  |some a=>match a.desc with
   |.slice r=>match bW l r with
    |some e=>match bF b g,bF b w with
     |.q (.aq (.R t (.S s n v i))),.q (.aq (.c (.int _ d)))=>match af n e.size with
      |true=>h (cy t (.bx s e.size (v+d.toNat) 0),[0<=d,d<i])
      |false=>q
     |.q (.aq (.c (.val (.slice (h ⟨y,j,q⟩) o _)))),.q (.aq (.c (.int _ d)))=>h (ax (.val (.pointer (h ⟨y,j+d.toNat*e.size,q⟩))),[0<=d,d<o])
     |_,_=>q
    |none=>q
   |_=>q
  |none=>q
 |.fieldAddr k g I=>match lb l k I with
  |some (n,_)=>match bF b g with
   |.q (.aq (.R t (.bx s x a v)))=>h (cy t (.bx s x a (v+n)),[])
   |.q (.aq (.c (.val (.pointer (h ⟨y,j,q⟩)))))=>h (ax (.val (.pointer (h ⟨y,j+n,q⟩))),[])
   |_=>q
  |none=>q
 |.nilCheck g=>match bF b g with
  |.q (.aq (.R t (.bx s x a v)))=>h (cy t (.bx s x a v),[])
  |_=>q
 |.slice k g D C q=>match bW l k with
  |none=>q
  |some a=>match kE (bF b) D with
   |none=>q
   |some u=>match kE (bF b) C with
    |none=>q
    |some F=>match a.desc with
     |.slice r=>match bW l r with
      |none=>q
      |some e=>match bF b g with
       |.q (.aq (.R t (.S s n v i)))=>match af n e.size with
        |true=>h (cy t (.S s e.size (v+bS 0 u) (bS i F-bS 0 u)),jc i u F)
        |false=>q
       |_=>q
     |_=>q
 |.slice k g q (h w) (h E)=>match bW l k with
  |none=>q
  |some a=>match a.desc with
   |.slice r=>match bW l r with
    |none=>q
    |some _=>match qJ (bF b g),bF b w,bF b E with
     |some (_,n,o,B),.q (.aq (.c (.int _ d))),.q (.aq (.c (.int _ i)))=>h (ax (.S m n d.toNat B),[0<=d,d<=i,i<=o])
     |_,_,_=>q
   |_=>q
 |.slice k g (h K) (h w) (h E)=>match bW l k with
  |none=>q
  |some a=>match a.desc with
   |.slice r=>match bW l r with
    |none=>q
    |some _=>match bF b g,bF b K,bF b w,bF b E with
     |.q (.aq (.R _ (.S _ _ _ o))),.q (.aq (.c (.int _ a))),.q (.aq (.c (.int _ d))),.q (.aq (.c (.int _ i)))=>h (.q (.aq .any),[0<=a,a<=d,d<=i,i<=o])
     |_,_,_,_=>q
   |_=>q
 |.call A=>match A.callee with
  |.builtin .len=>match A.args.toList,A.argTypes[0]? with
   |[g],h k=>match bW l k with
    |some a=>match a.desc with
     |.slice _=>match bF b g with
      |.q (.aq (.R _ (.S _ _ _ i)))=>h (ax (.int .i64 i),[])
      |.q (.aq (.c (.val (.slice _ o _))))=>h (ax (.int .i64 o),[o<=9223372036854775807])
      |_=>q
     |_=>q
    |none=>q
   |_,_=>q
  |_=>q
 |_=>q
def ys(j:p (Nat×bv))(i:bH)(k:p an)(t:av)(u:aA):Option (z×p Prop):=
 match bW j t with
 |some b=>match bF i u with
  |.q (.aq (.R s (.bx o r e n)))=>match c6 s k with
   |some (.h _ d g a)=>match af d r with
    |true=>match g' b ((fQ n (a e)).map O.c)with
     |some l=>h (.q l,[o=g,e<g])
     |none=>q
    |false=>q
   |_=>q
  |_=>q
 |none=>q
def aew:Nat->p N->Nat->Bool
 |0,a,b=>af (c a) b
 |_+1,_,_=>m
def D9(v:p (Nat×bv))(r:bH)(j:p an)(w:av)(x y:aA):Option (z×p an×p Prop):=
 match bW v w with
 |some l=>match bF r x with
  |.q (.aq (.R n (.bx t u i s)))=>match c6 n j with
   |some (.h o e g d)=>match af e u with
    |true=>match mm (bF r y)with
     |some new=>match af (c new) l.size with
      |true=>match h0 new with
       |some b=>match aew s b u with
        |true=>eS (c_.cq n (.h o e g (lm i b d)) j) λa=>h (.any,a,[t=g,i<g])
        |false=>match iQ s b (d i)with
         |some k=>eS (c_.cq n (.h o e g (lm i k d)) j) λa=>h (.any,a,[t=g,i<g])
         |none=>q
       |none=>q
      |false=>q
     |none=>q
    |false=>q
   |_=>q
  |_=>q
 |none=>q
def po(b:p (Nat×bv))(d:p (Nat×bK))(a:bH)(g:p an)(e:ap):Option (z×p Prop):=
 match e.op with
 |.load i j=>match C6 b a g i j with
  |some k=>h (k,[])
  |none=>ys b a g i j
 |_=>match yH b d a e with
  |some l=>h l
  |none=>Dk b a e
def w6(e:p (Nat×bv))(j g:av):Option (av×bv):=
 match bW e j with
 |none=>q
 |some i=>match bW e g with
  |none=>q
  |some cc=>match i.desc with
   |.slice b=>match cc.desc with
    |.slice d=>match af d b with
     |false=>q
     |true=>match bW e b with
      |none=>q
      |some a=>match ay 1 a.bytes,ay 1 a.size with
       |true,f=>h (b,a)
       |_,_=>q
    |_=>q
   |_=>q
def uz(i:p (Nat×bv))(e:aA->z)(n:aA)(l j:av):Option (av×bv×Nat×(Nat->p N)):=
 match w6 i l j with
 |none=>q
 |some (g,b)=>match qJ (e n)with
  |none=>q
  |some (_,d,k,a)=>match af d b.size with
   |false=>q
   |true=>h (g,b,k,a)
def AJ(u:p (Nat×bv))(t:aA->z)(k:p an)(y A:aA)(x v:av):Option (z×p an×p Prop):=
 match uz u t A x v with
 |none=>q
 |some (r,a,j,b)=>match t y with
  |.q (.aq (.c (.S f s d g)))=>match af s a.size with
   |true=>eS (k++[.r r a.size (d+j) (ce d g b)]) λi=>h (.q (.aq (.r (c k) a.size (d+j) (ce d g b))),i,[(d+j)*a.bytes<=140737488355328,d=0∨0<j])
   |false=>match af d 0 with
    |true=>eS (k++[.r r a.size (d+j) (ce d g b)]) λi=>h (.q (.aq (.r (c k) a.size (d+j) (ce d g b))),i,[(d+j)*a.bytes<=140737488355328,d=0∨0<j])
    |false=>q
  |.q (.aq (.r o s d g))=>match c6 o k with
   |some (.r l n e kH)=>match af l r,af s a.size,af n a.size with
    |true,f,f=>eS (c_.cq o (.r r a.size (d+j) (ce d g b)) k) λi=>h (.q (.aq (.r o a.size (d+j) (ce d g b))),i,[e=d,kH=g,(d+j)*a.bytes<=140737488355328])
    |_,_,_=>q
   |_=>q
  |.q (.aq (.R o (.S w s 0 d)))=>match c6 o k with
   |some (.h l n e kH)=>match af l r,af s a.size,af n a.size with
    |true,f,f=>eS (c_.cq o (.h r a.size (e+j) (ce e kH b)) k) λi=>h (cy o (.S (e+j) a.size 0 (e+j)),i,[w=e,d=e,(e+j)*a.bytes<=140737488355328])
    |_,_,_=>q
   |_=>q
  |_=>q
def Dn(d:p (Nat×bv))(g:p (Nat×bK))(a:bH)(b:p an)(j:ap):Option (z×p an×p Prop):=
 match j.op with
 |.alloc _|.box _ _=>yG d a b j
 |.store k l n=>match yG d a b j with
  |some r=>h r
  |none=>D9 d a b k l n
 |.call e=>match e.callee with
  |.builtin .append=>match e.args.toList,e.argTypes.toList with
   |[l,n],[k,o]=>AJ d (bF a) b l n k o
   |_,_=>q
  |.value i=>By g a b i e.args.toList
  |_=>q
 |_=>q
def AI(j:p (Nat×bv))(e:aA->z)(n o:aA)(l k:av):Option (z×p Prop):=
 match uz j e o l k with
 |none=>q
 |some (_,b,i,a)=>match e n with
  |.q (.aq (.c (.S f r d g)))=>match af d 0 with
   |true=>h (ax (.S m b.size (d+i) (ce d g a)),[(d+i)*b.bytes<=140737488355328,d=0∨0<i])
   |false=>q
  |_=>q
def Dl(d:p (Nat×bv))(b:bH)(g:ap):Option (z×p Prop):=
 match g.op with
 |.call a=>match a.callee with
  |.builtin .append=>match a.args.toList,a.argTypes.toList with
   |[j,k],[i,e]=>AI d (bF b) j k i e
   |_,_=>q
  |_=>q
 |_=>q
def vl:p (Nat×Bool)->Nat->Option Bool
 |[],_=>q
 |(d,b)::e,a=>match af d a with|true=>h b|false=>vl e a
def CW(a:p (Nat×Bool)):Option Nat->Bool
 |none=>m
 |some b=>match vl a (2000000+b)with
  |some f=>f
  |_=>m
def Z3(a:p (Nat×Bool)):Option Nat->Bool
 |none=>m
 |some b=>match vl a (3000000+b)with
  |some f=>f
  |_=>m
def AK(t:av)(a:bv)(d:aA->z)(u:p an)(y A:aA):Option (z×p an×p Prop):=
 match d y,d A with
 |.q (.aq (.R e (.S w x 0 n))),.q (.aq (.R s (.S l o v g)))=>match af s e with
  |false=>q
  |true=>match c6 e u with
   |some (.h i r b k)=>match af i t,af x a.size,af o a.size,af r a.size with
    |true,f,f,f=>eS (c_.cq e (.h t a.size b (qC n v g k)) u) λj=>h (cy e (.S b a.size 0 (n+g)),j,[w=b,l=b,n+g<=b,v+g<=b])
    |_,_,_,_=>q
   |_=>q
 |_,_=>q
def AL(u:Bool)(l:p (Nat×bv))(b:aA->z)(i:p an)(r s:aA)(o n:av):Option (z×p an×p Prop):=
 match u with
 |true=>match uz l b s o n with
  |none=>q
  |some (g,a,e,d)=>match b r with
   |.q (.aq (.c (.S f _ t k)))=>match af t 0 with
    |true=>eS (i++[.h g a.size (0+e) (ce 0 k d)]) λj=>h (cy (c i) (.S (0+e) a.size 0 (0+e)),j,[(0+e)*a.bytes<=140737488355328])
    |false=>q
   |_=>q
 |false=>match w6 l o n with
  |none=>q
  |some (g,a)=>AK g a b i r s
def yI(k:Bool)(d:p (Nat×bv))(b:bH)(e:p an)(i:ap):Option (z×p an×p Prop):=
 match i.op with
 |.call a=>match a.callee with
  |.builtin .append=>match a.args.toList,a.argTypes.toList with
   |[l,n],[j,g]=>AL k d (bF b) e l n j g
   |_,_=>q
  |_=>q
 |_=>q
def vx(i:p (Nat×Bool))(e:p (Nat×bv))(b:p (Nat×bK))(d:bH)(g:p an)(a:ap):Option (z×p an×p Prop):=
 match Z3 i a.dst with
 |true=>yI f e d g a
 |false=>match Dn e b d g a with
  |some j=>h j
  |none=>yI m e d g a
def uU(b:p (Nat×Bool))(g:Option Nat)(d:z)(a:p Prop):Option (z×p Prop):=
 match g with
 |none=>h (d,a)
 |some j=>match vl b j with
  |none=>h (d,a)
  |some e=>match d with
   |.q (.aq (.c (.bool i)))=>h (ax (.bool e),gA a [i=e])
   |_=>q
def SN{d}{l X}{b}(a:uU bg d l cf=h (X,b))(e:U b):X=l/\U cf:=by
 unfold uU at a;split at a
 .grind
 split at a
 .grind
 split at a
 .cases a;simp_all
 grind
def hx(k:p (Nat×bv))(g:p (Nat×bK))(d:p (Nat×Bool))(i:p ap)(j:bH)(r:p an)(e:ap):Option (z×Option (p an)×p Prop):=
 let go:Option (z×Option (p an)×p Prop):=match po k g j r e with
  |some (b,a)=>match uU d e.dst b a with
   |some (o,s)=>o' o λo=>h (o,q,s)
   |none=>q
  |none=>match CW d e.dst with
   |true=>match Dl k j e with
    |some (b,a)=>o' b λb=>h (b,q,a)
    |none=>q
   |false=>match vx d k g j r e with
    |some (b,l,a)=>o' b λb=>h (b,h l,a)
    |none=>q
 match e.guard with
 |none=>go
 |some (u,t)=>match yi j i u with
  |some (h n)=>match t,n with
   |true,f=>go
   |false,m=>go
   |_,_=>h (.Q [],q,[])
  |some q=>h (.Q [],q,[])
  |none=>q
section
variable {r:ai P}{ad:p (Nat×bv)}{CT:p (Nat×bK)}
def F'(aQ:bn P ad){g}{a4}(j:t.op=.call {callee:=.builtin .append,args:=#[l,X],argTypes:=#[o,g]})(a:w6 ad o g=h (W,a4)):j1 P t l X W a4:=by
 unfold w6 at a;split at a
 .cases a
 rename_i k i;split at a
 .cases a
 rename_i cc d;split at a
 case h_2=>cases a
 rename_i W r;split at a
 case h_2=>cases a
 rename_i n b;split at a
 .cases a
 rename_i p;have s:=di p;subst s;split at a
 .cases a
 rename_i a4 e;split at a
 case h_2=>cases a
 rename_i u v;cases a;exact⟨⟨o,g,k,cc,j,aQ o k i,r,aQ g cc d,b⟩,aQ _ _ e,by exact lG,by exact lG⟩
def AN(aQ:bn P ad){j}{a4}{a:Nat->p N}(k:t.op=.call {callee:=.builtin .append,args:=#[l,X],argTypes:=#[o,j]})(b:uz ad η X o j=h (W,a4,A,a)):
  j1 P t l X W a4/\∃d,∀i e g,bx i e g (η X)->Rd e.u g (.S d a4.size A a):=by
 unfold uz at b;split at b
 .cases b
 rename_i s;split at b
 .cases b
 rename_i d v A a n;split at b
 .cases b
 rename_i r;have u:=di r;subst u;cases b;exact⟨F' aQ k s,d,λi e g=>tB n i e g⟩
theorem RT(aQ:bn P ad)(A:∀n p s,bV D n p F s->aV t (yielded all.toArray s.tmps)=f){x}{v}(g:t.op=.call {callee:=.builtin .append,args:=#[l,X],argTypes:=#[o,x]})(a:AI ad (bF F) l X o x=h (v,cf))(u:U cf):aT r D all t F n v n:=by
 unfold AI at a;split at a
 .cases a
 rename_i y B I w d;obtain⟨z,C,b⟩:=AN aQ g d;have b:=λp E=>b n p E;split at a
 .rename_i i k T j;split at a
  .rename_i e;cases a;exact(aT.a1 A (a0.fZ z j (.inr (di e)) b u.1 u.2)).eY
  grind
 grind
theorem RU(aQ:bn P ad){D}{E}(u:t.op=.call {callee:=.builtin .append,args:=#[l,X],argTypes:=#[o,D]})(a:AJ ad η n l X o D=h (E,ao,cf))(e:U cf):a0 P t η n E ao:=by
 unfold AJ at a;split at a
 .cases a
 rename_i I K S F s;obtain⟨j,Q,g⟩:=AN aQ u s;have g:=λM R=>g n M R;split at a
 .rename_i i k T b;split at a
  .rename_i b1;rw[hq]at a;cases a;exact a0.fZ j b (.inl (di b1)) g e.1 e.2
  split at a
  .rename_i J;rw[hq]at a;cases a;exact a0.fZ j b (.inr (di J)) g e.1 e.2
  grind
 .rename_i d i k T b;split at a
  .rename_i W N p kH gD;split at a
   .rename_i A x B;rw[hq,mL]at a;cases a;obtain⟨v,O,y⟩:p=k/\kH=T/\_:=e;subst v;subst O;have w:=di A;subst w;have z:=di x;have r:=di B;subst r;subst z;exact a0.ib j b (ei gD) g y
   grind
  grind
 .rename_i d C i k b;split at a
  .rename_i W N p kH gD;split at a
   .rename_i A x B;rw[hq,mL]at a;cases a;obtain⟨v,O,y⟩:C=p/\k=p/\_:=e;subst v;subst O;have w:=di A;subst w;have z:=di x;have r:=di B;subst r;subst z;exact a0.h_ j b (ei gD) g y
   grind
  grind
 grind
theorem aab(aQ:bn P ad){g}(d:t.op=.call {callee:=.builtin .len,args:=#[l],argTypes:=dn})(p:dn[0]?=h o)(a:C2 ad o (η l)=h g):a0 P t η n g n:=by
 unfold C2 at a;split at a
 .cases a
 rename_i u b;split at a
 .rename_i W j;split at a
  .rename_i eP i k T e;cases a;exact a0.jm aQ d p b j (λr s=>tB e n r s)
  grind
 .grind [a0.jo]
 grind
theorem SB(aQ:bn P ad){j s}{u}(o:t.op=.convert j s l)(a:BM ad j s (η l)=h (u,cf))(v:U cf):a0 P t η n u n:=by
 unfold BM at a;split at a
 .cases a
 rename_i E g;split at a
 .cases a
 rename_i cc b;split at a
 .rename_i z e;split at a
  .rename_i i w A;cases a;exact a0.iD aQ o g b e A v
  grind
 .rename_i e;split at a
  .grind [a0.iE]
  split at a
  .rename_i W C;split at a
   .rename_i a4 p;split at a
    .rename_i y;split at a
     .rename_i eP i k T r;split at a
      .rename_i b1;have x:=di b1;subst x;split at a
       .rename_i F d;cases a;exact a0.iy aQ o g b C e p y (λB D=>tB r n B D) d
       grind
      grind
     grind
    grind
   grind
  grind
 grind
theorem acp(aQ:bn P ad){eV bp}{b}(d:t.op=.slice o l eV bp q)(a:DZ ad η o l eV bp=h (b,cf))(e:U cf):a0 P t η n b n:=by
 unfold DZ at a;split at a
 .cases a
 rename_i k g;split at a
 .cases a
 rename_i p j;split at a
 .cases a
 rename_i r i;split at a
 .grind [a0.jZ]
 .grind [Nat.eq_of_beq_eq_true,a0.jY,tB]
 grind
theorem AO{a:Array α}{b:α}(d:a.toList=[b]):a=#[b]:=Array.ext' d
theorem AP{a:Array α}{b d:α}(e:a.toList=[b,d]):a=#[b,d]:=Array.ext' e
theorem aaQ(aQ:bn P ad)(L:a8 r CT){I:z}(u:yH ad CT F t=h (I,cf))(p:U cf)(a':∀n x g,bV D n x F g->aV t (yielded all.toArray g.tmps)=f):aT r D all t F n I n:=by
 unfold yH at u;split at u
 .grind [aT.a1,a0.move]
 .grind [aT.a1,a0.assign]
 .rename_i o l X a;split at u
  .rename_i e bp;split at u
   .rename_i B;split at u
    .rename_i d i w b O;cases u;obtain⟨M,K⟩:0<=w/\w<(c d:Int):=p;have:=a0.jf (n:=n) (A:=w.toNat) aQ a bp B b O y y;have J:kF d w=d[w.toNat]'y:=by simp[kF,al,bI (by omega:w.toNat<c d)]
     grind[aT.a1]
    grind
   grind
  grind
 .rename_i o l X a;split at u
  .rename_i e bp;split at u
   .rename_i W B;split at u
    .rename_i a4 v;split at u
     .rename_i eP i k T S w b O;split at u
      .rename_i b1;cases u;obtain⟨M,K⟩:0<=w/\w<(k:Int):=p;have J:=di b1;subst J;exact aT.a1 a' (a0.indexAddr (A:=w.toNat) aQ a bp B v (λx V=>tB b n x V) O y y)
      grind
     grind
    grind
   grind
  grind
 .grind [aT.a1,acp]
 .grind [aT.a1,SB]
 .rename_i s a;obtain⟨H,args,E⟩:=s;grind[AO,aT.a1,aab,aT.ix]
 .rename_i s g j bc;split at u
  .exact OJ
  .exact OJ
  grind
 .rename_i op o X Z ty bc;unfold Gi at u;split at u
  .grind [aT.a1,a0.iw]
  .rename_i g j _ N C;split at u
   .split at u
    .rename_i _ _ Q R _ _;cases u;exact aT.a1 a' (a0.kk bc N C p.1 p.2)
    .exact zF
    grind
   .exact zF
   .exact zF
   .exact zF
   grind[aT.a1,a0.binOp]
  .rename_i ah T N C;split at u
   .grind [aT.a1,a0.j_]
   grind
  grind
 .grind [aT.a1,a0.unOp]
 .grind [aT.a1,a0.extract,ei]
 .rename_i o X Y bc;split at u
  .rename_i i w G;split at u
   .rename_i d off b;cases u;exact aT.a1 a' (a0.g7 aQ bc b G)
   .grind [aT.a1,a0.g8]
   grind
  grind
 .grind [aT.a1,a0.field]
 .grind [aT.a1,a0.hA,a0.hB]
 .grind [aT.a1,a0.build]
 .grind [aT.a1,a0.buildSlice]
 .grind [aT.a1,a0.makeFunc]
 .grind [aT.a1,a0.makeInterface]
 .grind [aT.a1,a0.typeAssert]
 grind
theorem aaN(aQ:bn P ad){J:z}(a:Dk ad F t=h (J,cf))(r:U cf):a0 P t (bF F) n J n:=by
 unfold Dk at a;split at a
 .rename_i o l X b;split at a
  .rename_i e bp;split at a
   .rename_i W O;split at a
    .rename_i a4 p;split at a
     .rename_i d C i K A B w g x;split at a
      .rename_i b1;cases a;obtain⟨N,v⟩:0<=w/\w<(A:Int):=r;grind[Nat.eq_of_beq_eq_true,a0.jd]
      grind
     .rename_i j off k cap B w g x;cases a;obtain⟨N,v⟩:0<=w/\w<(k:Int):=r;grind[a0.je]
     grind
    grind
   grind
  grind
 .rename_i o l ag b;split at a
  .rename_i i w H;split at a
   .rename_i d C aM e K g;cases a;exact a0.iR aQ b g H
   .rename_i j off g;cases a;exact a0.iS aQ b g H
   grind
  grind
 .grind [a0.jB]
 .rename_i o l eV bp b;split at a
  .cases a
  rename_i e D;split at a
  .cases a
  rename_i Y aa;split at a
  .cases a
  grind[Nat.eq_of_beq_eq_true,a0.sliceB]
 .rename_i o l X R b;split at a
  .cases a
  rename_i e D;split at a
  .rename_i W O;split at a
   .cases a
   rename_i a4 p;split at a
   .rename_i eP i k T y w L A g x G;cases a;obtain⟨N,v,E⟩:0<=w/\w<=A/\A<=(k:Int):=r;exact a0.jV aQ b D O p (λM Q=>tB g n M Q) x G N v E
   grind
  grind
 .rename_i o l ah X R b;split at a
  .cases a
  rename_i e D;split at a
  .rename_i W O;split at a
   .cases a
   rename_i a4 p;split at a
   .rename_i d C i K k ab e y w L A g Z x G;cases a;obtain⟨N,v,E,V⟩:0<=e/\e<=w/\w<=A/\A<=(k:Int):=r;grind[a0.slice3B]
   grind
  grind
 .rename_i s b;obtain⟨S,args,I⟩:=s;simp only at a;split at a
  .split at a
   .rename_i l o g ar;split at a
    .rename_i e bp;split at a
     .rename_i W O;split at a
      .grind [AO,a0.jk]
      .rename_i ae k cap u;cases a;have:=AO g;subst this;exact a0.jq aQ b ar bp O u r
      grind
     grind
    grind
   grind
  grind
 grind
theorem aag(aQ:bn P ad)(b:t.op=.load o l){p}(a:ys ad F n o l=h (p,cf))(g:U cf):a0 P t (bF F) n p n:=by
 unfold ys at a;split at a
 .rename_i w bp;split at a
  .rename_i d C i e v s;split at a
   .rename_i W u k T aE;split at a
    .rename_i b1;have r:=di b1;subst r;split at a
     .rename_i r j;cases a;exact a0.e6 aQ b s g.1 (ei aE) bp j g.2
     grind
    grind
   grind
  grind
 grind
theorem acS(aQ:bn P ad)(j:t.op=.store o l X){y}(a:D9 ad F n o l X=h (y,ao,cf))(r:U cf):a0 P t (bF F) n y ao:=by
 unfold D9 at a;split at a
 .rename_i B bp;split at a
  .rename_i d C i e u s;split at a
   .rename_i W v k T aE;split at a
    .rename_i b1;have z:=di b1;subst z;split at a
     .rename_i new p;split at a
      .rename_i w;split at a
       .rename_i gB b;split at a
        .rename_i A;rw[hq,mL]at a;cases a;have x:u=0/\c gB=v:=by
          cases u with
          |zero=>exact⟨rfl,di A⟩
          |succ u=>exact cQ
         obtain⟨rfl,x⟩:=x;exact a0.h2 aQ j s r.1 (ei aE) bp p (di w) b (λD=>L4 M) r.2
        split at a
        .rename_i ci g;rw[hq,mL]at a;cases a;exact a0.h2 aQ j s r.1 (ei aE) bp p (di w) b (λ_=>g) r.2
        grind
       grind
      grind
     grind
    grind
   grind
  grind
 grind
theorem aaS(aQ:bn P ad)(i:a8 r CT){d}(a:po ad CT F n t=h (d,cf))(g:U cf)(l:∀n e b,bV D n e F b->aV t (yielded all.toArray b.tmps)=f):aT r D all t F n d n:=by
 unfold po at a;split at a
 .rename_i o X k;split at a
  .rename_i C j;cases a;unfold C6 at j;split at j
   .grind [aT.a1,a0.ho,ei,a0.hq]
   grind
  grind[aT.a1,aag]
 grind[aaQ,aT.a1,aaN]
theorem aaO(aQ:bn P ad)(o:a8 r CT){d:z}(e:Dn ad CT F n t=h (d,ao,cf))(j:U cf)(l:∀n i a,bV D n i F a->aV t (yielded all.toArray a.tmps)=f):aT r D all t F n d ao:=by
 unfold Dn at e;split at e
 .grind [aT.a1,Dm]
 .grind [aT.a1,Dm]
 .grind [aT.a1,Dm,acS]
 .rename_i s g;obtain⟨k,args,b⟩:=s;grind[AP,aT.a1,RU,aT.call]
 grind
def RV{a4}{g}(p:j1 P t l X W a4)(a:AK W a4 η n l X=h (g,ao,cf))(j:U cf):a0 P t η n g ao:=by
 unfold AK at a;split at a
 .rename_i d C i e y v x w A J B;split at a
  .cases a
  rename_i r;have b:=di r;subst b;split at a
  .rename_i N K k T gD;split at a
   .rename_i o DC tm DD;have s:=di o;have I:=di DC;have u:=di tm;have D:=di DD;rw[hq]at a;cases a;obtain⟨O,F,z,E⟩:=j;subst O F s I u D;have:=a0.h' (n:=n) p J B (ei gD) z E;grind[mL]
   grind
  grind
 grind
theorem RX(aQ:bn P ad){D}{r}{p}(b:t.op=.call {callee:=.builtin .append,args:=#[l,X],argTypes:=#[o,r]})(a:AL D ad η n l X o r=h (p,ao,cf))(j:U cf):a0 P t η n p ao:=by
 unfold AL at a;split at a
 .split at a
  .cases a
  rename_i u z E s d;obtain⟨v,B,w⟩:=AN aQ b d;split at a
  .rename_i i k T g;split at a
   .rename_i e;have x:=di e;subst x;rw[hq]at a;cases a;exact a0.ia v g (λA C=>w _ A C) j
   grind
  grind
 split at a
 .cases a
 rename_i y;exact RV (F' aQ b y) a j
theorem aaP(aQ:bn P ad)(p:a8 r CT){a:z}(b:vx bg ad CT F n t=h (a,ao,cf))(k:U cf)(o:∀n j d,bV D n j F d->aV t (yielded all.toArray d.tmps)=f):aT r D all t F n a ao:=by
 have key:∀g,yI g ad F n t=h (a,ao,cf)->aT r D all t F n a ao:=by
  intro g b;unfold yI at b;split at b
  .rename_i s i;obtain⟨l,args,e⟩:=s;grind[AP,aT.a1,RX]
  grind
 unfold vx at b;grind[aaO]
def ee(aQ:bn P ad)(J:a8 r CT){j}{ao}(a:hx ad CT bg all F n t=h (j,ao,cf))(z:U cf):aT r D all t F n j (ao.getD n):=by
 have go:(∀n g d,bV D n g F d->aV t (yielded all.toArray d.tmps)=f)->(match po ad CT F n t with
  |some (b,cf)=>match uU bg t.dst b cf with
   |some (l,y)=>o' l λl=>h (l,q,y)
   |none=>q
  |none=>match CW bg t.dst with
   |true=>match Dl ad F t with
    |some (b,cf)=>o' b λb=>h (b,q,cf)
    |none=>q
   |false=>match vx bg ad CT F n t with
    |some (b,ao,cf)=>o' b λb=>h (b,h ao,cf)
    |none=>q)=h (j,ao,cf)->aT r D all t F n j (ao.getD n):=by
  intro O a;split at a
  .rename_i b e K;split at a
   .rename_i l A B;rw[u5]at a;cases a;obtain⟨rfl,M⟩:=SN B z;grind[aaS]
   grind
  split at a
  .split at a
   .rename_i b e k;rw[u5]at a;cases a;unfold Dl at k;split at k
    .rename_i s x;obtain⟨I,args,p⟩:=s;grind[AP,RT]
    grind
   grind
  grind[u5,aaP]
 unfold hx at a;simp only at a;split at a
 .grind [iV]
 rename_i E u v;split at a
 .rename_i w o;have C:∀n g d,bV D n g F d->aV t (yielded all.toArray d.tmps)=(h w==h u):=λn g d i=>by simp only[aV,v,yj o i]
  split at a
  .grind
  .grind
  cases a;refine aT.hI (λn g d i=>(C n g d i).trans ?_);cases u<;>cases w<;>simp_all
 .rename_i o;cases a;exact aT.hI (λn g d i=>by simp only[aV,v,yj o i];rfl)
 grind
end
variable {CT:p (Nat×bK)}{ar:p ig}{be:fq}{ad:p (Nat×bv)}{a4:bv}
def mB(a:bH)(b:ap):Bool:=match b.op with
 |.load _ d=>match bF a d with
  |.q (.aq (.c (.O _)))=>m
  |_=>f
 |_=>m
def aaR{e8}(d:mB F t=m):po ad CT F n t=po ad CT F e8 t:=by
 unfold po;split
 .rename_i o l a;simp[mB,a]at d;split at d
  .rename_i ah b;simp[C6,ys,b]
  grind
 simp
def aaT{d}(k:mB F t=m)(a:hx ad CT bg all F n t=h (d,q,cf))(e8):
  hx ad CT bg all F e8 t=h (d,q,cf):=by
 unfold hx at a⊢;simp only at a⊢;rw[aaR (e8:=n) k];cases j:po ad CT F n t with
 |some l=>grind
 |none=>
  simp[j]at a⊢;cases i:CW bg t.dst with
  |true=>grind
  |false=>
   simp[i]at a⊢;have key:∀{g:Option (z×Option (p an)×p Prop)},(match vx bg ad CT F n t with|some (e,b,cf)=>o' e λe=>h (e,h b,cf)|none=>q)=g->g≠h (d,q,cf):=by grind[u5]
   split at a
   .grind
   grind
def jM(a:Nat):p ap->Bool
 |[]=>m
 |e::b=>match e.dst with
  |some d=>match af d a with|true=>f|false=>jM a b
  |none=>jM a b
theorem u'{o}:∀{d:p ap}{e:Nat}{a:ap},d[e]?=h a->a.dst=h o->jM o d=f
 |[],_,_,u,_=>by grind
 |i::g,0,a,u,b=>by simp at u;subst u;simp[jM,b,sx]
 |i::g,e+1,a,u,b=>by have:=u' (d:=g) ww b;simp[jM];grind
theorem CM{o}:∀{b:p ap},jM o b=f->∃(e:Nat)(t:ap),b[e]?=h t/\t.dst=h o
 |[],u=>by cases u
 |d::k,u=>by
  simp[jM]at u;split at u
  .rename_i g s;split at u
   .rename_i i;exact⟨0,d,a,by grind[Nat.eq_of_beq_eq_true]⟩
   exact QE
  exact QE
def kM:p ap->Bool
 |[]=>f
 |d::a=>match d.dst with
  |some b=>match jM b a with|true=>m|false=>kM a
  |none=>kM a
theorem Dj{o}:∀{l:p ap}{g i:Nat}{b d:ap},kM l=f->l[g]?=h b->l[i]?=h d->b.dst=h o->d.dst=h o->g=i
 |[],_,_,_,_,_,u,_,_,_=>by grind
 |n::e,0,0,_,_,_,_,_,_,_=>rfl
 |n::e,0,i+1,b,d,a,j,k,d1,d2=>by simp at j;subst j;simp[kM,d1]at a;grind[u']
 |n::e,g+1,0,b,d,a,j,k,d1,d2=>by simp at k;subst k;simp[kM,d2]at a;grind[u']
 |n::e,g+1,i+1,b,d,a,j,k,d1,d2=>by
  have:kM e=f:=by simp[kM]at a;grind
  have s:e[g]?=h b:=M;have r:e[i]?=h d:=M;have t:=Dj this s r d1 d2;omega
def mJ(a:p ap):bH->bH
 |[]=>[]
 |(d,e)::b=>match jM d a with|true=>mJ a b|false=>(d,e)::mJ a b
def tc{all}{o}:∀{b:bH},look (mJ all b) o=if jM o all=f then .any else look b o
 |[]=>by simp[mJ,look]
 |(a,j)::k=>by
  simp[mJ];by_cases g:af a o=f
  .have i:=di g;subst i;cases e:jM a all with
   |true=>simp only;rw[tc];grind
   |false=>simp[look]
  have d:af a o=m:=M;cases e:jM a all with
  |true=>simp only;rw[tc];simp[look,d]
  |false=>simp[look,d,cond];rw[tc]
def c5:p Edge->p Nat
 |[]=>[]
 |b::a=>match b.ground with
  |.textOnly _=>c5 a
  |.gcOnly _=>c5 a
  |_=>b.on::c5 a
theorem l0{w}:∀{d:p Edge},w∈c5 d↔∃a∈d,eL a=f/\a.on=w
 |[]=>by simp[c5]
 |a::b=>by
  have l:=l0 (w:=w) (d:=b);have i:c5 (a::b)=a.on::c5 b->eL a=f->(w∈c5 (a::b)↔∃e∈a::b,eL e=f/\e.on=w):=M;have g:c5 (a::b)=c5 b->eL a=m->(w∈c5 (a::b)↔∃e∈a::b,eL e=f/\e.on=w):=M;cases j:a.ground with
  |textOnly k=>exact g EC Ns
  |gcOnly k=>exact g EC Ns
  |_=>exact i EC (by unfold eL Region.binds;rw[j])
def nm(a b:Nat):p ap->Bool
 |[]=>m
 |e::d=>match e.dst with
  |some g=>match af g b with
   |true=>match ed a (c5 e.after.toList)with
    |true=>nm a b d
    |false=>f
   |false=>nm a b d
  |none=>nm a b d
def Jt{e o}:∀{j:p ap},nm e o j=m->∀(d:Nat)a,j[d]?=h a->a.dst=h o->ed e (c5 a.after.toList)=f
 |[],_,d,a,b,_=>by grind
 |l::k,b,0,a,i,g=>by simp at i;subst i;simp[nm,g,sx]at b;grind
 |l::k,b,d+1,a,i,g=>by
  have:nm e o k=m:=by simp[nm]at b;grind
  exact Jt this d a M g
def ox(a:p ap):bH->p (Nat×z×Bool)
 |[]=>[]
 |(b,d)::e=>match jM b a with
  |true=>(b,d,f)::ox a e
  |false=>(b,d,m)::ox a e
def g8(b:Nat)(a:p ap):p (Nat×z×Bool)->bH
 |[]=>[]
 |(e,g,i)::d=>match i with
  |false=>(e,g)::g8 b a d
  |true=>match nm b e a with
   |true=>g8 b a d
   |false=>(e,g)::g8 b a d
def J5{e}{all}{o}:∀{F:bH},look (g8 e all (ox all F)) o=if jM o all=f/\nm e o all=f then .any else look F o
 |[]=>by simp[ox,g8,look]
 |(bz,b)::a=>by
  have i:=J5 (e:=e) (all:=all) (o:=o) (F:=a);have g:look ((bz,b)::g8 e all (ox all a)) o=if af bz o=f then b else look (g8 e all (ox all a)) o:=Re;have d:look ((bz,b)::a) o=if af bz o=f then b else look a o:=Re;cases x:jM bz all with
  |false=>
   simp[ox,x,g8];exact tZ
  |true=>
   cases aj:nm e bz all with
   |true=>
    exact N_
   |false=>
    exact N_
def fL(d:Nat->Bool):Nat->p (Option Nat×z)->bH->bH
 |_,[],a=>a
 |b,(g,j)::e,a=>match d b with
  |true=>match g with
   |some i=>(i,j)::fL d (b+1) e a
   |none=>fL d (b+1) e a
  |false=>fL d (b+1) e a
def vn{A:Nat->Bool}{F}{o}:∀{d:p (Option Nat×z)}{e:Nat},(∃w b,d[w]?=h (h o,b)/\A (e+w)=f/\look (fL A e d F) o=b)∨look (fL A e d F) o=look F o
 |[],e=>.inr rfl
 |(i,b)::g,e=>by
  have u:=vn (A:=A) (F:=F) (o:=o) (d:=g) (e:=e+1);have step:look (fL A e ((i,b)::g) F) o=look (fL A (e+1) g F) o->((∃w j,((i,b)::g)[w]?=h (h o,j)/\A (e+w)=f/\look (fL A e ((i,b)::g) F) o=j)∨look (fL A e ((i,b)::g) F) o=look F o):=by
   intro n;rw[n];rcases u with⟨w,j,t,k,C⟩|x
   .exact .inl ⟨w+1,j,by grind,by grind,C⟩
   grind
  cases l:A e with
  |false=>exact step (by simp[fL,l])
  |true=>
   cases i with
   |none=>exact step (by simp[fL,l])
   |some r=>
    by_cases v:af r o=f
    .have n:=di v;subst n;exact .inl ⟨0,b,a,by grind,by simp[fL,l,look]⟩
    have s:af r o=m:=M;exact step (by simp[fL,l,look,s])
structure kV where
 a':Nat
 pre:p (Option Nat×z)
 b:p an
 cc:p (p Bool)
 dB:p Bool
 dD:p Bool
 cz:p Prop
def td(a:Nat):p Nat->Bool
 |[]=>f
 |b::d=>match Nat.blt b a with|true=>td a d|false=>m
def C7{e}:∀{g:p Nat},td e g=f->∀d∈g,d<e
 |[],_,d,b=>by grind
 |j::k,b,d,a=>by
  simp[td]at b;cases i:Nat.blt j e with
  |false=>grind
  |true=>
   simp[i]at b;rcases fl.1 a with rfl|a
   .simp_all
   exact C7 b d a
def gl:p Bool->Nat->Bool
 |[],_=>m
 |a::_,0=>a
 |_::d,b+1=>gl d b
def jP:p Bool->p Bool->p Bool
 |[],b=>b
 |true::a,[]=>f::a
 |false::a,[]=>m::a
 |true::a,_::b=>f::jP a b
 |false::a,f::b=>f::jP a b
 |false::a,m::b=>m::jP a b
def p9:∀{a b:p Bool}{d:Nat},gl (jP a b) d=(gl a d||gl b d)
 |[],b,d=>by exact cQ
 |true::a,[],d=>by simp[jP,gl]
 |false::a,[],d=>by simp[jP,gl]
 |true::a,e::b,0=>by exact cQ
 |true::a,e::b,d+1=>by simp[jP,gl];exact p9
 |false::a,f::b,0=>by exact cQ
 |false::a,f::b,d+1=>by simp[jP,gl];exact p9
 |false::a,m::b,0=>by exact cQ
 |false::a,m::b,d+1=>by simp[jP,gl];exact p9
def nz:Nat->p Bool
 |0=>[f]
 |a+1=>m::nz a
theorem xb:∀{b a:Nat},gl (nz b) a=decide (b=a)
 |0,0=>rfl
 |0,a+1=>by exact cQ
 |b+1,0=>by exact cQ
 |b+1,a+1=>by simp only[nz,gl,xb];simp
def lI(a:p (p Bool)):p Nat->p Bool
 |[]=>[]
 |b::d=>match c6 b a with
  |some e=>jP (jP e (nz b)) (lI a d)
  |none=>jP (nz b) (lI a d)
theorem BG{j}{w}:∀{l:p Nat},gl (lI j l) w=f->∃d∈l,d=w∨∃b,j[d]?=h b/\gl b w=f
 |[],a=>by exact cQ
 |d::n,a=>by
  simp[lI,ld]at a;have qP:∀{k:Nat},gl (nz d) k=f->d=k:=by grind[xb]
  have i:gl (lI j n) w=f->∃g∈d::n,g=w∨∃b,j[g]?=h b/\gl b w=f:=by intro a;obtain⟨g,r,o⟩:=BG a;grind
  split at a
  .rename_i b e;rw[p9,p9,jz,jz]at a;grind
  rw[p9,jz]at a;grind
def pB:p Bool->p Bool->Bool
 |[],_=>f
 |true::a,f::b=>pB a b
 |true::_,_=>m
 |false::a,_::b=>pB a b
 |false::a,[]=>pB a []
theorem tE:∀{b d:p Bool}{w:Nat},pB b d=f->gl b w=f->gl d w=f
 |[],d,w,_,a=>by exact cQ
 |true::b,f::d,0,_,_=>rfl
 |true::b,f::d,w+1,e,a=>by simp[gl]at a⊢;exact tE cQ a
 |true::b,m::d,w,e,_=>by exact cQ
 |true::b,[],w,e,_=>by exact cQ
 |false::b,g::d,0,_,a=>by exact cQ
 |false::b,g::d,w+1,e,a=>by simp[gl]at a⊢;exact tE cQ a
 |false::b,[],0,_,a=>by exact cQ
 |false::b,[],w+1,e,a=>by simp[gl]at a;have:=tE (w:=w) (by simpa[pB]using e) a;exact cQ
def pA(v:p (Nat×bv))(n:p (Nat×bK))(u:Nat)(r:p (Nat×Bool))(e:p ap)(l:p (Nat×z×Bool))(a:kV)(k:ap):Option kV:=
 match fa u k.dst with
 |false=>q
 |true=>
  eS (c5 k.after.toList) λi=>
  match td a.a' i with
  |false=>q
  |true=>match hx v n r e (fL (λs=>ed s i) 0 a.pre (g8 a.a' e l)) a.b k with
   |none=>q
   |some (t,j,b)=>
    eS (lI a.cc i) λg=>
    match j,mB (fL (λs=>ed s i) 0 a.pre (g8 a.a' e l)) k with
    |none,m=>eS (a.pre++[(k.dst,t)]) λpre=>eS (a.cc++[g]) λd=>eS (gA b a.cz) λb=>h ⟨a.a'+1,pre,a.b,d,a.dB,a.dD,b⟩
    |none,f=>match pB a.dB g with
     |true=>eS (a.pre++[(k.dst,t)]) λpre=>eS (a.cc++[g]) λd=>eS (gA b a.cz) λb=>eS (jP a.dD (nz a.a')) λo=>h ⟨a.a'+1,pre,a.b,d,a.dB,o,b⟩
     |false=>q
    |some j,_=>match pB a.dD g with
     |true=>eS (a.pre++[(k.dst,t)]) λpre=>eS (a.cc++[g]) λd=>eS (gA b a.cz) λb=>eS (jP a.dD (nz a.a')) λo=>eS (jP a.dB (nz a.a')) λw=>h ⟨a.a'+1,pre,j,d,w,o,b⟩
     |false=>q
def yV(k:p (Nat×bv))(d:p (Nat×bK))(j:Nat)(g:p (Nat×Bool))(a:p ap)(e:p (Nat×z×Bool)):p ap->kV->Option kV
 |[],b=>h b
 |l::n,b=>match pA k d j g a e b l with
  |some i=>yV k d j g a e n i
  |none=>q
def xT(l:p (Nat×bv))(d:p (Nat×bK))(k:Nat)(i:p (Nat×Bool))(a:p ap)(j:bH)(n:p an):Option (bH×p an×p Prop):=
 match kM a with
 |false=>q
 |true=>eS (ox a j) λg=>match yV l d k i a g a ⟨0,[],n,[],[],[],[]⟩with
  |some b=>eS (fL (λ_=>f) 0 b.pre (mJ a j)) λe=>h (e,b.b,b.cz)
  |none=>q
def en:ap:=⟨q,.move (.tmp 0),0,"",#[],q⟩
section
variable (ad:p (Nat×bv))(CT:p (Nat×bK))(D:Nat)(bg:p (Nat×Bool))(all:p ap)(cH:p (Nat×z×Bool))
def jB(a:kV):Nat->kV
 |0=>a
 |b+1=>(pA ad CT D bg all cH (jB a b) (all.getD b en)).getD (jB a b)
def qn(a:kV)(b:Nat):bH:=fL (λd=>ed d (c5 (all.getD b en).after.toList)) 0 (jB ad CT D bg all cH a b).pre (g8 (jB ad CT D bg all cH a b).a' all cH)
def yU(a:kV)(b:Nat):Option (z×Option (p an)×p Prop):=hx ad CT bg all (qn ad CT D bg all cH a b) (jB ad CT D bg all cH a b).b (all.getD b en)
def qS(a:kV)(b:Nat):z:=match yU ad CT D bg all cH a b with|some (d,_,_)=>d|none=>.any
def jf(a:kV)(b:Nat):Bool:=match yU ad CT D bg all cH a b with|some (_,h _,_)=>f|_=>m
def qp(a:kV)(b:Nat):Bool:=!mB (qn ad CT D bg all cH a b) (all.getD b en)&&!jf ad CT D bg all cH a b
def qb(a:kV)(b:Nat):p Bool:=lI (jB ad CT D bg all cH a b).cc (c5 (all.getD b en).after.toList)
end
section
variable {ad:p (Nat×bv)}{CT:p (Nat×bK)}{D:Nat}{bg:p (Nat×Bool)}{all:p ap}{cH:p (Nat×z×Bool)}
structure FO(ad:p (Nat×bv))(CT:p (Nat×bK))(D:Nat)(bg:p (Nat×Bool))(all:p ap)(cH:p (Nat×z×Bool))(b7 rU:kV)(t:ap)(l:z)(ao:Option (p an))(cz:p Prop):Prop where
 dst:fa D t.dst=f
 lt:td b7.a' (c5 t.after.toList)=f
 op:hx ad CT bg all (fL (λw=>ed w (c5 t.after.toList)) 0 b7.pre (g8 b7.a' all cH)) b7.b t=h (l,ao,cz)
 a':rU.a'=b7.a'+1
 pre:rU.pre=b7.pre++[(t.dst,l)]
 cc:rU.cc=b7.cc++[lI b7.cc (c5 t.after.toList)]
 b:rU.b=ao.getD b7.b
 cz:rU.cz=gA cz b7.cz
 iJ:rU.dB=if ao.isSome=f then jP b7.dB (nz b7.a')else b7.dB
 jA:rU.dD=if(mB (fL (λw=>ed w (c5 t.after.toList)) 0 b7.pre (g8 b7.a' all cH)) t||ao.isSome)=f then jP b7.dD (nz b7.a')else b7.dD
 load:mB (fL (λw=>ed w (c5 t.after.toList)) 0 b7.pre (g8 b7.a' all cH)) t=f->ao.isSome=m->pB b7.dB (lI b7.cc (c5 t.after.toList))=f
 b_:ao.isSome=f->pB b7.dD (lI b7.cc (c5 t.after.toList))=f
def L9{b7 i}(b:pA ad CT D bg all cH b7 t=h i):∃l d g,FO ad CT D bg all cH b7 i t l d g:=by
 unfold pA at b;split at b
 .cases b
 rename_i k;simp[hq]at b;split at b
 .cases b
 rename_i j;split at b
 .cases b
 rename_i l d g e;refine⟨l,d,g,?_⟩;cases d with
 |none=>
  cases n:mB (fL (λo=>ed o (c5 t.after.toList)) 0 b7.pre (g8 b7.a' all cH)) t with
  |false=>
   simp[n,hq]at b;cases b;exact⟨k,j,e,a,a,a,a,a,by simp,by grind,by grind,by simp⟩
  |true=>
   simp[n,hq]at b;split at b
   .rename_i s;cases b;exact⟨k,j,e,a,a,a,a,a,by simp,by grind,λ_ _=>s,by simp⟩
   grind
 |some d=>
  simp[hq]at b;split at b
  .rename_i s;cases b;exact⟨k,j,e,a,a,a,a,a,by simp,by simp,by simp,λ_=>s⟩
  grind
def LA{b7 d}:∀{br:p ap}{i:Nat},(∀a,br[a]?=all[i+a]?)->yV ad CT D bg all cH br (jB ad CT D bg all cH b7 i)=h d ->
  (∀a g,br[a]?=h g->pA ad CT D bg all cH (jB ad CT D bg all cH b7 (i+a)) g=h (jB ad CT D bg all cH b7 (i+a+1)))/\jB ad CT D bg all cH b7 (i+c br)=d
 |[],i,_,b=>by cases b;grind
 |o::r,i,e,b=>by
  simp[yV]at b;have l:all[i]?=h o:=by have:=e 0;grind
  split at b
  .rename_i j k;have n:jB ad CT D bg all cH b7 (i+1)=j:=by simp[jB,al,l,im,k]
   rw[<-n]at b;obtain⟨t,s⟩:=LA (br:=r) (i:=i+1) (λa=>by have:=e (a+1);grind) b;grind
  grind
theorem qB:∀{a:p Nat},ed w a=f->w∈a:=by
 intro a;induction a with
 |nil=>intro b;cases b
 |cons d g e=>
  intro b;simp[ed]at b;exact tZ
def ST{aS:ai P}(a5:P.follows Departure.mixedOrders=f)(aQ:bn P ad)(aV:a8 aS CT){aR}(u:xT ad CT D bg aC.toList F n=h (aR,ao,cf))(bL:U cf){aM}(bF:aM .normal aR ao)(id):
  bY aS D (.region id aC f) aM F n:=by
 unfold xT at u;split at u
 .cases u
 rename_i bo;rw[hq]at u;split at u
 case h_2=>cases u
 rename_i ah aG;rw[hq]at u;cases u;generalize bG:aC.toList=g at *;generalize aH:ox g F=cH at *;have bu:∀e:Nat,aC[e]?=g[e]?:=λe=>by grind
 have bd:aC.size=c g:=M;let l:kV:=⟨0,[],n,[],[],[],[]⟩
 obtain⟨bS,bT⟩:=LA (ad:=ad) (CT:=CT) (D:=D) (bg:=bg) (cH:=cH) (b7:=l) (br:=g) (i:=0) (λe=>by simp) aG;simp only[cV]at bS bT;let k:=jB ad CT D bg g cH l;have aN:∀e t,g[e]?=h t->g.getD e en=t:=λe t u=>by grind
 have aj:∀e t,g[e]?=h t->qn ad CT D bg g cH l e=(fL (λj=>ed j (c5 (t).after.toList)) 0 (k e).pre (g8 (k e).a' g cH)):=λe t u=>by unfold qn;grind
 have C:∀e t,g[e]?=h t->∃bq,FO ad CT D bg g cH (k e) (k (e+1)) t (qS ad CT D bg g cH l e) (if jf ad CT D bg g cH l e=f then h (k (e+1)).b else q) bq:=by
  intro e t cv;obtain⟨aO,z,bq,p⟩:=L9 (bS e t cv);have aL:=p.op;have aA:yU ad CT D bg g cH l e=h (aO,z,bq):=by unfold yU qn;grind
  have bN:qS ad CT D bg g cH l e=aO:=by unfold qS;rw[aA]
  cases z with
  |none=>
   have O:jf ad CT D bg g cH l e=m:=by unfold jf;rw[aA]
   grind
  |some bk=>
   have O:jf ad CT D bg g cH l e=f:=by unfold jf;rw[aA]
   have bO:(k (e+1)).b=bk:=p.b;grind
 have bt:∀e,e<=c g->(k e).a'=e:=by
  intro e;induction e with
  |zero=>intro _;rfl
  |succ e N=>
   intro bp;obtain⟨_,p⟩:=C e _ (bI y);rw[p.a',N y]
 have W:∀e,e<=c g->∀j,(k e).pre[j]?=if j<e then(g[j]?).map (λt=>(t.dst,qS ad CT D bg g cH l j))else q:=by
  intro e;induction e with
  |zero=>intro _ j;exact cQ
  |succ e N=>
   intro bp j;obtain⟨_,p⟩:=C e _ (bI y);have T:(k e).pre.length=e:=by
    apply Nat.le_antisymm
    .grind
    grind
   rw[p.pre];grind
 have ax:∀e,e<=c g->∀j,(k e).cc[j]?=if j<e then h (qb ad CT D bg g cH l j)else q:=by
  intro e;induction e with
  |zero=>intro _ j;exact cQ
  |succ e N=>
   intro bp j;obtain⟨_,p⟩:=C e _ (bI y);have T:(k e).cc.length=e:=by
    apply Nat.le_antisymm
    .apply Nat.le_of_not_lt;intro aK;have:=N y e;grind
    grind
   rw[p.cc];by_cases S:j<e
   .grind
   rw[hl y];by_cases r:j=e
   .subst r;rw[bs y,T,uu];simp only[m4,qb,aN j _ (bI (by omega:j<c g))];rfl
   grind
 have bz:∀e,e<=c g->∀j,gl (k e).dB j=(decide (j<e)&&jf ad CT D bg g cH l j):=by
  intro e;induction e with
  |zero=>intro _ j;exact cQ
  |succ e N=>
   intro bp j;obtain⟨_,p⟩:=C e _ (bI y);rw[p.iJ];cases O:jf ad CT D bg g cH l e with
   |false=>
    grind
   |true=>
    simp only[dH,Option.isSome_some];rw[p9,N y j,xb,bt e y];by_cases r:j=e
    .grind
    grind
 have bf:∀e,e<=c g->∀j,gl (k e).dD j=(decide (j<e)&&!qp ad CT D bg g cH l j):=by
  intro e;induction e with
  |zero=>intro _ j;exact cQ
  |succ e N=>
   intro bp j;obtain⟨_,p⟩:=C e _ (bI y);have ag:(if jf ad CT D bg g cH l e=f then h (k (e+1)).b else q).isSome=jf ad CT D bg g cH l e:=by cases jf ad CT D bg g cH l e<;>rfl
   have aq:qp ad CT D bg g cH l e=!(mB (fL (λj=>ed j (c5 (g[e]'y).after.toList)) 0 (k e).pre (g8 (k e).a' g cH)) (g[e]'y)||jf ad CT D bg g cH l e):=by unfold qp;rw[aj e _ (bI y),aN e _ (bI y)];simp
   rw[p.jA,ag];cases O:(mB (fL (λj=>ed j (c5 (g[e]'y).after.toList)) 0 (k e).pre (g8 (k e).a' g cH)) (g[e]'y)||jf ad CT D bg g cH l e)with
   |false=>
    grind
   |true=>
    simp only[dH];rw[p9,N y j,xb,bt e y];by_cases r:j=e
    .grind
    grind
 have V:∀e,e<=c g->U (k e).cz:=by
  have aw:∀i e,e+i=c g->U (k e).cz:=by
   intro i;induction i with
   |zero=>
    grind
   |succ i N=>
    intro e bp;obtain⟨_,p⟩:=C e _ (bI y);have:=N (e+1) y;rw[p.cz,U.Y]at this;exact this.2
  intro e bp;exact aw (c g-e) e y
 have b5:∀e t,g[e]?=h t->aT aS D g t (qn ad CT D bg g cH l e) (k e).b (qS ad CT D bg g cH l e) (k (e+1)).b:=by intro e t cv;have bp:e<c g:=(cO.1 cv).1;obtain⟨_,p⟩:=C e t cv;have nn:=V (e+1) y;rw[p.cz,U.Y]at nn;have:=ee (P:=P) (D:=D) aQ aV p.op nn.1;rw[p.b];grind
 let idx:Nat->Option Nat:=λo=>(aD (c g)).find? (λe=>decide ((g.getD e en).dst=h o));have b6:∀o j,idx o=h j->∃t,g[j]?=h t/\t.dst=h o:=M;have bR:∀e t az,g[e]?=h t->t.dst=h az->idx az=h e:=by
  intro e t az cv Q;have bp:e<c g:=(cO.1 cv).1;cases bN:idx az with
  |none=>
   grind
  |some j=>
   grind[Dj]
 have b_:∀o,jM o g=f↔∃j,idx o=h j:=by grind[CM,u']
 have b9:∀e t,g[e]?=h t->∀r∈t.after,eL r=f->r.on<e:=by intro e t cv r O Y;have bp:e<c g:=(cO.1 cv).1;obtain⟨_,p⟩:=C e t cv;have:=C7 p.lt r.on (l0.2 ⟨r,by grind,Y,rfl⟩);grind
 have bl:=b9;have Q:q6 aS D aC F (λe=>(k e).b) (qS ad CT D bg g cH l) (qn ad CT D bg g cH l) (qp ad CT D bg g cH l) (λe=>decide (e<c g)&&jf ad CT D bg g cH l e) (λe j=>e<c g/\gl (qb ad CT D bg g cH l e) j=f) idx (fL (λ_=>f) 0 ah.pre (mJ g F)):=by
  refine⟨a5,M,?_,?_,?_,?_,?_,?_,?_,?_,?_⟩
  .intro e t az cv Q;rw[bu]at cv;obtain⟨_,p⟩:=C e t cv;exact⟨bR e t az cv Q,k9 p.dst az Q⟩
  .grind
  .intro e O;rcases dY e (c g) with bp|bp
   .obtain⟨_,p⟩:=C e _ (bI bp);have:jf ad CT D bg g cH l e=m:=M;have b4:=p.b;grind
   have bB:g.getD e en=en:=M;show(k (e+1)).b=(k e).b;have:pA ad CT D bg g cH (k e) en=q∨∃aJ,pA ad CT D bg g cH (k e) en=h aJ:=by
    cases pA ad CT D bg g cH (k e) en with
    |none=>grind
    |some aJ=>grind
   show((pA ad CT D bg g cH (k e) (g.getD e en)).getD (k e)).b=(k e).b;rw[bB];rcases this with u|⟨aJ,u⟩
   .grind
   rw[u];obtain⟨aO,z,bP,p⟩:=L9 u;have aL:=p.op;have:z=q:=by unfold hx at aL;simp only[en,po,yH,uU,u5]at aL;grind
   rw[im,p.b,this];rfl
  .grind
  .intro e t cv ae;rw[bu]at cv;have bp:e<c g:=(cO.1 cv).1;have aI:mB (fL (λj=>ed j (c5 (t).after.toList)) 0 (k e).pre (g8 (k e).a' g cH)) t=m/\jf ad CT D bg g cH l e=m:=by unfold qp at ae;grind
   refine⟨by grind,λi=>?_⟩;obtain⟨bP,p⟩:=C e t cv;have aL:=p.op;rw[aI.2]at aL;have aF:=aaT aI.1 (by simpa using aL) (k i).b;have nn:=V (e+1) y;rw[p.cz,U.Y]at nn;have:=ee (P:=P) (D:=D) aQ aV aF nn.1;grind
  .intro L cd e j ⟨bp,Y⟩;have ak:∀e,e<c g->L e->∀r,r∈c5 (g.getD e en).after.toList->L r:=by intro e bp an r O;rw[aN e _ (bI bp)]at O;obtain⟨bx,s,v,rfl⟩:=l0.1 O;grind
   have key:∀e,e<c g->∀j,gl (qb ad CT D bg g cH l e) j=f->(∀r∈c5 (g.getD e en).after.toList,L r)->L j:=by
    intro e;induction e using Nat.strongRecOn with
    |_ e N=>
     intro bp j Y aX;obtain⟨r,O,u⟩:=BG Y;have aK:r<e:=by have R:=O;rw[aN e _ (bI bp)]at R;obtain⟨bx,s,v,rfl⟩:=l0.1 R;grind
     rcases u with rfl|⟨bV,bH,a1⟩
     .grind
     have:=ax e y r;rw[bs aK]at this;have a0:(k e).cc[r]?=h bV:=bH;rw[a0]at this;cases this;exact N r aK y j a1 (ak r y (aX r O))
   refine⟨λan=>key e bp j Y (ak e bp an),g[e],by grind,λbM=>key e bp j Y ?_⟩;grind[List.getElem?_eq_getElem,l0]
  .intro e Z bp x O b1 au;rw[bd]at bp x;have R:jf ad CT D bg g cH l Z=f:=M;rcases dY Z e with aK|b0
   .refine .inl ⟨aK,bp,?_⟩;obtain⟨_,p⟩:=C e _ (bI bp);have K:qb ad CT D bg g cH l e=lI (k e).cc (c5 (g[e]).after.toList):=by unfold qb;grind
    rw[K];cases a3:jf ad CT D bg g cH l e with
    |true=>
     have s:=p.b_ M;refine tE s ?_;rw[bf e y Z];have:qp ad CT D bg g cH l Z=m:=by unfold qp;grind
     grind
    |false=>
     have a_:mB (fL (λj=>ed j (c5 (g[e]).after.toList)) 0 (k e).pre (g8 (k e).a' g cH)) g[e]=f:=by unfold qp at au;rw[aj e _ (bI bp),aN e _ (bI bp),a3]at au;grind
     have s:=p.load a_ M;grind[tE]
   have aK:e<Z:=y;refine .inr ⟨aK,x,?_⟩;obtain⟨_,p⟩:=C Z _ (bI x);have K:qb ad CT D bg g cH l Z=lI (k Z).cc (c5 (g[Z]).after.toList):=by unfold qb;grind
   rw[K];have s:=p.b_ M;grind[tE]
  .intro e t cv o n b aa ab;rw[bu]at cv;have bp:e<c g:=(cO.1 cv).1;unfold qn;rw[aN e t cv];rcases vn (A:=λj=>ed j (c5 t.after.toList)) (F:=g8 (k e).a' g cH) (o:=o) (d:=(k e).pre) (e:=0)with⟨j,aO,s,v,w⟩|w
   .have J:look (fL (λj=>ed j (c5 t.after.toList)) 0 (jB ad CT D bg g cH l e).pre (g8 (jB ad CT D bg g cH l e).a' g cH)) o=aO:=w;rw[J];have B:=W e y j;rw[s]at B;have S:j<e:=M;rw[bs S,bI (by omega:j<c g)]at B;simp only[lC,eR,lD]at B;obtain⟨bc,b3⟩:=B;have aP:=bR j _ o (bI (by omega:j<c g)) bc.symm;rw[aP]at ab;simp only at ab;rw[bs]at ab
    .grind
    have aE:j∈c5 t.after.toList:=by simp only[cV]at v;exact qB v
    obtain⟨r,bU,b',bV⟩:=l0.1 aE;grind
   have J:look (fL (λj=>ed j (c5 t.after.toList)) 0 (jB ad CT D bg g cH l e).pre (g8 (jB ad CT D bg g cH l e).a' g cH)) o=look (g8 (k e).a' g cH) o:=w;rw[J,bt e y,<-aH,J5];split
   .trivial
   rename_i b2;cases aP:idx o with
   |some j=>
    have cc:=(b_ o).2 ⟨j,aP⟩;have bE:nm e o g=m:=M;obtain⟨bh,a',a2⟩:=b6 o j aP;have bK:=qB (Jt bE j bh a' a2);obtain⟨r,O,Y,heq⟩:=l0.1 bK;rw[aP]at ab;simp only at ab;split at ab
    ·
     rename_i a4;obtain⟨cb,bX,bW,bJ⟩:=a4;grind
    rw[bs ⟨bh,by grind,r,by grind,Y,heq⟩]at ab;exact ab
   |none=>grind
  intro o n b aa ab;have bD:k (c g)=ah:=bT;rcases vn (A:=λ_=>f) (F:=mJ g F) (o:=o) (d:=ah.pre) (e:=0)with⟨j,aO,s,_,w⟩|w
  .rw[w];have B:=W (c g) (bC _) j;rw[bD,s]at B;have S:j<c g:=M;grind
  rw[w,tc];split
  .trivial
  grind
 intro b bU aq a6 b' cg ca b8 Y aZ;have aW:k aC.size=ah:=M;refine .next a λI H=>?_;have H:=aS.bM H;have G:=a6.rely H;have aB:=aq.rely H a6;have X:cN n I n {I with a:={I.a with drawn:=I.a.drawn+1}}:=cN.same rfl rfl rfl rfl;have ar:bb n {I with a:={I.a with drawn:=I.a.drawn+1}}:=G.same rfl;have bj:=H.aR.trans (X.tooU G);refine⟨_,{I with a:={I.a with drawn:=I.a.drawn+1}},#[],DW,⟨⟨n,n,G,ar,X⟩,.nil⟩,?_⟩;simp only[Region.schedule,a5,Bool.true_or,dH];refine Q.eO Y (cE:={I with a:={I.a with drawn:=I.a.drawn+1}}) (λbQ bw aU v av=>?_) aC.size _ E ?_ ?_ 0 _ bU y ?_ ?_ ar (.refl _ _) _
 .simp only[aW]at aU v av;exact aZ .normal _ _ bQ bw bF aU v (bj.trans av)
 .simp
 .exact E4
 .intro Z x bZ;exact wm
 have aI:=aB.mono (X.tooU G) G.len;refine⟨aI.size,aI.defers,λo=>?_⟩;unfold gx;cases aP:idx o with
 |none=>exact aI.aH o
 |some j=>
  simp only;rw[bm]
  .exact aI.aH o
  exact wm
end
section
variable {r:ai P}
theorem g.iG(e:P.follows Departure.mixedOrders=f)(aQ:bn P ad)(b:a8 r CT){a}{id}(i:xT ad CT D bg aC.toList F n=h (a,ao,cf))(d:U cf)(j:g r D be ar .normal a ao):g r D be (.code (.region id aC f)::ar) .normal F n:=
 ST e aQ b i d j id
end
def rV(x:p (Nat×bv))(o:p (Nat×bK))(l:p (Nat×Bool))(w:Nat)(b:p ig)(a:bH)(e:p an):Option (p ig×bH×p an×p Prop):=
 match b with
 |[]=>q
 |.blk _::b=>h (b,a,e,[])
 |.ae _ []::b=>h (b,a,e,[])
 |.ae g (r::j)::b=>match fa w r.dst with
  |true=>match hx x o l g a e r with
   |some (n,q,d)=>eS (fS r.dst n a) λa=>h (.ae g j::b,a,e,d)
   |some (n,h k,d)=>eS (fS r.dst n a) λa=>h (.ae g j::b,a,k,d)
   |none=>q
  |false=>q
 |.code u::b=>match u with
  |.skip=>h (b,a,e,[])
  |.seq n v=>h (.code n::.code v::b,a,e,[])
  |.block id u=>h (.code u::.blk id::b,a,e,[])
  |.region id i y=>match vl l (id+1000000)with
   |some _=>q
   |none=>match y with
    |false=>h (.ae i.toList i.toList::b,a,e,[])
    |true=>match xT x o w l i.toList a e with
     |some (s,k,d)=>h (b,s,k,d)
     |none=>q
  |.exit id=>match iK id b with
   |some t=>h (t,a,e,[])
   |none=>q
  |.cond (.tmp z) n v=>match look a z with
   |.q (.aq (.c (.bool f)))=>h (.code n::b,a,e,[])
   |.q (.aq (.c (.bool m)))=>h (.code v::b,a,e,[])
   |_=>q
  |_=>q
theorem acK{d:ai P}(p:P.follows Departure.mixedOrders=f)(aQ:bn P ad)(aj:a8 d CT){C}{a}(u:rV ad CT bg D ar F n=h (C,a,ao,cf))(cv:U cf)(i:g d D be C .normal a ao):g d D be ar .normal F n:=by
 unfold rV at u;split at u
 .cases u
 .grind [g.il]
 .grind [g.hN]
 .rename_i all t br b;cases e:fa D t.dst with
  |false=>grind
  |true=>
   simp[e]at u;have ae:=k9 e;split at u
   .rename_i l k j;exact Qt
   .rename_i l aL k j;exact Qt
   grind
 rename_i o b;split at u
 .grind [g.skip]
 .grind [g.seq]
 .grind [g.block]
 .grind [g.region,g.iG]
 .grind [g.exit]
 .grind [g.cond]
 grind
def kQ(n:p (Nat×bv))(b:p (Nat×bK))(d:p (Nat×Bool))(l:Nat):Nat->p ig->bH->p an->p Prop->Option (p ig×bH×p an×p Prop)
 |0,g,e,i,a=>eS a λa=>h (g,e,i,a)
 |r+1,g,e,i,a=>match rV n b d l g e i with
  |some (o,j,k,s)=>kQ n b d l r o j k (gA s a)
  |none=>eS a λa=>h (g,e,i,a)
def Lz{P}{r:ai P}(v:P.follows Departure.mixedOrders=f){ad}(aQ:bn P ad){CT}(w:a8 r CT){bg}{D}{be}:∀{t:Nat}{j o:p ig}{i d:bH}{k e:p an}{b a:p Prop},
  kQ ad CT bg D t j i k b=h (o,d,e,a)->U a->g r D be o .normal d e->g r D be j .normal i k/\U b
 |0,j,o,i,d,k,e,b,a,l,n,s=>by simp[kQ,hq]at l;grind
 |t+1,j,o,i,d,k,e,b,a,l,n,s=>by
  simp[kQ]at l;cases x:rV ad CT bg D j i k with
  |none=>
   grind[hq]
  |some y=>
   obtain⟨A,z,u,E⟩:=y;simp[x]at l;obtain⟨C,B⟩:=Lz v aQ w l n s;grind[U.Y,acK]
def g.aU{b:ai P}(l:P.follows Departure.mixedOrders=f)(aQ:bn P ad)(d:a8 b CT)(bg)(k){j}{a}{i}(o:AM.kQ ad CT bg D k ar F n []=h (j,a,ao,i))(e:U i)(p:g b D be j .normal a ao):g b D be ar .normal F n:=(Lz l aQ d o e p).1
section
variable {r:ai P}
def pv(e:p ResultVar)(b:p Nat)(g:bH)(a:z):Option (p Prop):=
 match oC g e with
 |some d=>match pf d with
  |some i=>match hI (c b) a with
   |true=>kk i (e7 b a)
   |false=>q
  |none=>q
 |none=>q
def g.aS{fn}{x}{res}(aO)(u:pv fn.results.toList aO F res=h ab)(I:U ab)(b1:∀w,w<x->aO[w]?=h w)(s:dv aO n=h ao:=by exact rfl)(j:l2 ao=f:=by exact rfl)(ji:e6 aO=f:=by exact rfl):
  g r D (bT fn x res ao) (.code .ret::ar) .normal F n:=by refine g.ret ⟨.inl a,aO,?_⟩;unfold pv at u;grind
def g.aw{fn}{res}(u:pv fn.results.toList [] F res=h ab)(x:U ab:=by simp):g r D (bT fn 0 res []) (.code .ret::ar) .normal F n:=
 g.aS [] u x (λw u=>by omega)
def bT.zero{fn}{res}(u:pv fn.results.toList [] F res=h ab)(s:U ab:=by simp):bT fn 0 res [] .ret F n:=by
 refine⟨.inl a,[],?_⟩;unfold pv at u;split at u
 .rename_i bg Yo;split at u
  .rename_i I j;split at u
   .rename_i x;exact⟨bg,I,ab,Yo,j,u,s,x,a,a,a,λw u=>by omega⟩
   grind
  grind
 grind
def g.bt{id}{O:bH->p an->Prop}{Ai}{d C}(k:iK id ar=q)(l:iK id d=h C)(w:g r D Ai C .normal F n):
  g r D (λi b e=>match i with
   |.normal=>O b e
   |i=>g r D Ai d i b e) (.code (.exit id)::ar) .normal F n:=by
 have key:∀{ar:p ig},iK id ar=q->∀{aM:fq},aM (.exit id) F n->g r D aM ar (.exit id) F n:=by
  intro ar;induction ar with
  |nil=>intro _ aM j;exact j
  |cons v A s=>
   intro a aM j;cases v with
   |code z=>exact s (by simpa[iK]using a) j
   |ae x y=>exact s (by simpa[iK]using a) j
   |blk t=>
    simp[iK]at a;cases o:af id t with
    |true=>grind
    |false=>
     simp[o]at a;have u:id≠t:=λi=>by grind[Nat.beq_refl]
     simp[g,u,dh];grind
 exact bY.exit (key k (g.toExit l w))
def g.bX{O:bH->p an->Prop}{a}{i}(j:a .ret F n):
  g r D (λe b d=>match e with
   |.normal=>O b d
   |e=>g r D a i e b d) (.code .ret::ar) .normal F n:=g.ret (g.dK (be:=a) j)
def g.again{i:Type}{s:i->Prop}{d:i->bH}{e:i->p an}{j:i->Nat}{l}{k:fq}(X)(v:iO F (d X)=h ab)(w:U ab)(x:s X)(u:j X<j l)(t:n=e X):
  g r D (λo a b=>match o with
   |.normal=>∃X,s X/\j X<j l/\ix a (d X)/\b=e X
   |o=>k o a b) [] .normal F n:=⟨X,x,u,eC v w,t⟩
def g.ee{j:Type}(i:j->Prop)(a:j->bH)(b:j->p an)(o:j->Nat)(l)(v:iO F (a l)=h ab)(w:U ab)(x:i l)(u:b l=n)(round:∀l,i l->g r D (λt d e=>match t with
   |.normal=>∃k,i k/\o k<o l/\ix d (a k)/\e=b k
   |t=>g r D be ar t d e) [.code s] .normal (a l) (b l)):g r D be (.code (.loop s)::ar) .normal F n:=
 g.loop i a b o l x (eC v w) u round
def kw(args:p z)(a:p an):Prop:=∃b B,b4 a b B args/\bb a b
def kw.at{args}(e:kw args n){a}(g:args[w]?=h a):∃b i,bx n b i a:=by obtain⟨b,B,d,_⟩:=e;obtain⟨_,j⟩:=b4.get d;grind
def kw.V{args}{n}(e:kw args n)(i:Nat){d}(a:args[i]?=h (ax (.V d))):c d<=9223372036854775807:=by
 obtain⟨j,k,g⟩:=e.at a;cases b6 g with
 |V e b=>exact b
def kw.S{args}{n}(g:kw args n)(l:Nat){o}{i k}{a:Nat->p N}(b:args[l]?=h (ax (.S o i k a))):k<=9223372036854775807:=by
 obtain⟨u,v,e⟩:=g.at b;cases b6 e with
 |S s d t r j=>omega
def Y.body{j}{fn}{args}{res}(i:P.funcs[j]?=h fn)(e:(fn.name== "runtime.NumGoroutine")=m)(d:fn.body=h s)(l:ay args.length fn.ntmps=f)(o:kw args n->g r fn.ntmps (bT fn n.length res ao) [.code s] .normal (hZ 0 args) n):Y r j args n res ao:=by refine⟨⟨fn,i,e,by grind⟩,λk B b a=>?_⟩;exact(Y.intro i e d (e' l) (g.aW (o ⟨k,B,b,a⟩))).2 k B b a
def Y.K{b}{fn}{s}{args}{n ao}{res}(d:P.funcs[b]?=h fn)(a:(fn.name== "runtime.NumGoroutine",fn.body,ay args.length fn.ntmps)=(m,h s,f))(e:kw args n->g r fn.ntmps (bT fn n.length res ao) [.code s] .normal (hZ 0 args) n):Y r b args n res ao:=by simp only[lD]at a;exact Y.body d a.1 a.2.1 a.2.2 e
def g.cj{j}(a)(ao)(k:(∀i(b:p Prop),iO i a=h b->U b->g r D be (.code s::j) .normal i ao)->g r D be ar .normal F n)(l:g r D be (.code s::j) .normal a ao):g r D be ar .normal F n:=
 k λ_ _ d e=>bY.le l (eC d e)
end
def hu{e}(a:P.types[o]?=h e):P.info? o=h e:=by unfold Tables.info?;rw[bs (i_.1 a).1];exact a
def bn.nil:bn P []:=λ_ _ a=>by cases a
def bn.cons{e}(g:dO P o e)(i:bn P ad):bn P ((o,e)::ad):=by
 intro d cc a;simp only[bW]at a;cases b:af o d with
 |true=>rw[b]at a;cases a;rw[<-di b];exact g
 |false=>rw[b]at a;exact i d cc a
def dO.jy{e}{k}(u:P.underlying o=h e.desc)(i:P.types[o]?=h k)(x:(yq e.desc==e.agg&&k.size==e.size&&k.bytes==e.bytes&&(!e.agg||k.zero.any λcL=>match cL with|.agg _=>f|_=>m)&&c e.zero==e.size&&e.eq.isEmpty)=f:=by rfl)(j:k.zero.map (λcL=>cL.cells.toList.map lE)=h (e.zero.map h):=by rfl):dO P o e:=by
 simp only[cF,hd,List.isEmpty_iff]at x;obtain⟨⟨⟨⟨⟨jw,i7⟩,wJ⟩,Al⟩,Rz⟩,RA⟩:=x;cases s:k.zero with
 |none=>rw[s]at j;cases j
 |some cL=>
  rw[s]at j Al;refine⟨u,jw,⟨k,cL,hu i,i7,wJ,s,ut j,?_,Rz⟩,λu=>absurd RA u⟩;cases I:e.agg with
  |false=>exact⟨#[],rfl⟩
  |true=>
   rw[I]at Al;cases cL<;>first|exact⟨_,rfl⟩|cases Al
def bn.ay{e}{k}(u:P.underlying o=h e.desc)(i:P.types[o]?=h k)(a':bn P ad)(x:(yq e.desc==e.agg&&k.size==e.size&&k.bytes==e.bytes&&(!e.agg||k.zero.any λcL=>match cL with|.agg _=>f|_=>m)&&c e.zero==e.size&&e.eq.isEmpty)=f:=by rfl)(j:k.zero.map (λcL=>cL.cells.toList.map lE)=h (e.zero.map h):=by rfl):bn P ((o,e)::ad):=bn.cons (dO.jy u i x j) a'
namespace R1
abbrev lj:= "loop.example/depositary/impl"
abbrev KH:= "loop.example/depositary/spec"
abbrev b3(a:String)(b d:Nat)(e:String)(g:Nat)(i:Bool:=m):Field:={name:=a,type:=b,offset:=d,embedded:=i,tag:= "",pkgPath:=e,byteOffset:=g}
abbrev gS:N:=.S f 0 0 (λ_=>[])
@[simp] def jY(a:av):bv:=⟨1,24,m,.slice a,[gS],[]⟩
@[simp] def kt(a:av):bv:=⟨1,8,m,.pointer a,[.bc],[]⟩
@[simp] def jX(b:Nat)(a:IntKind):bv:=⟨1,b,m,.int a,[.int a 0],[]⟩
@[simp] def fM(e a:Nat)(d:Array Field)(g:p N)(b:p TypeDesc:=[]):bv:=⟨e,a,f,.struct d,g,b⟩
def cc:bv:=jX 8 .i64
def ec:bv:=jX 8 .i64
def fv:bv:=⟨1,1,m,TypeDesc.bool,[.bool m],[]⟩
def Zy:bv:=jX 1 .u8
def ZC:bv:=jX 1 .u8
def i8:bv:=fM 4 24 #[b3 "x" 2 0 "runtime" 0,b3 "y" 3 1 "runtime" 8,b3 "signed" 4 2 "runtime" 16,b3 "code" 6 3 "runtime" 17] [.int .i64 0,.int .i64 0,.bool m,.int .u8 0]
def s3:bv:=⟨1,16,m,TypeDesc.string,[.V []],[]⟩
def Yy:bv:=jX 8 .u64
def i16:bv:=kt 391
def YF:bv:=kt 398
def YK:bv:=⟨1,16,m,TypeDesc.interface #[],[.bo],[]⟩
def YP:bv:=jX 4 .i32
def YQ:bv:=jY 5
def YR:bv:=jY 91
def YT:bv:=jY 106
def YX:bv:=jY 140
def Y2:bv:=fM 3 72 #[b3 "Packs" 23 0 "" 0,b3 "Snaps" 24 1 "" 24,b3 "Log" 25 2 "" 48] [gS,gS,gS]
def Y4:bv:=jY 3
def Zb:bv:=fM 5 120 #[b3 "Store" 27 0 "" 0,b3 "Marks" 28 3 "" 72,b3 "Left" 28 4 "" 96] [gS,gS,gS,gS,gS]
def i32:bv:=fM 4 40 #[b3 "Kind" 3 0 "" 0,b3 "N" 3 1 "" 8,b3 "M" 3 2 "" 16,b3 "Body" 9 3 "" 24] [.int .i64 0,.int .i64 0,.int .i64 0,.V []] [.int .i64,.int .i64,.int .i64,.string]
def Yf:dO V 32 i32:=⟨underlying32,rfl,⟨_,_,hu type32,rfl,rfl,rfl,rfl,⟨_,rfl⟩,rfl⟩,λ_=>od (h4:=[b3 "Kind" 3 0 "" 0,b3 "N" 3 1 "" 8,b3 "M" 3 2 "" 16,b3 "Body" 9 3 "" 24]) underlying32 l9 eqGuardType32 ⟨by decide,rfl,underlying3,v,by decide,rfl,underlying3,v,by decide,rfl,underlying3,v,by decide,rfl,underlying9,v,v⟩⟩
def Zh:bv:=jY 61
def Zk:bv:=fM 12 216 #[b3 "Key" 3 0 "" 0,b3 "Sweep" 30 1 "" 8,b3 "Lie" 32 6 "" 128,b3 "Keeps" 33 10 "" 168,b3 "Found" 28 11 "" 192] [.int .i64 0,gS,gS,gS,gS,gS,.int .i64 0,.int .i64 0,.int .i64 0,.V [],gS,gS]
def CR:bv:=jY 46
def Zo:bv:=fM 8 104 #[b3 "Kind" 3 0 "" 0,b3 "By" 3 1 "" 8,b3 "Tree" 36 2 "" 16,b3 "Lie" 32 3 "" 40,b3 "Keep" 28 7 "" 80] [.int .i64 0,.int .i64 0,gS,.int .i64 0,.int .i64 0,.int .i64 0,.V [],gS]
def qt:bv:=fM 2 32 #[b3 "Path" 9 0 "" 0,b3 "Text" 9 1 "" 16] [.V [],.V []] [.string,.string]
def Yi:dO V 46 qt:=⟨underlying46,rfl,⟨_,_,hu type46,rfl,rfl,rfl,rfl,⟨_,rfl⟩,rfl⟩,λ_=>od (h4:=[b3 "Path" 9 0 "" 0,b3 "Text" 9 1 "" 16]) underlying46 l9 eqGuardType46 ⟨by decide,rfl,underlying9,v,by decide,rfl,underlying9,v,v⟩⟩
def Zx:bv:=kt 66
def Zz:bv:=⟨1,8,m,TypeDesc.func #[55,38] #[4] m,[.da],[]⟩
def ZA:bv:=kt 35
def ZB:bv:=jY 53
def ym:bv:=fM 2 16 #[b3 "Long" 3 0 "" 0,b3 "Sum" 3 1 "" 8] [.int .i64 0,.int .i64 0] [.int .i64,.int .i64]
def Yj:dO V 61 ym:=⟨underlying61,rfl,⟨_,_,hu type61,rfl,rfl,rfl,rfl,⟨_,rfl⟩,rfl⟩,λ_=>od (h4:=[b3 "Long" 3 0 "" 0,b3 "Sum" 3 1 "" 8]) underlying61 l9 eqGuardType61 ⟨by decide,rfl,underlying3,v,by decide,rfl,underlying3,v,v⟩⟩
def ZD:bv:=fM 2 32 #[b3 "b" 22 0 KH 0,b3 "p" 3 1 KH 24] [gS,.int .i64 0]
def CS:bv:=jY 131
def np:bv:=fM 2 32 #[b3 "No" 3 0 "" 0,b3 "Item" 89 1 "" 8] [.int .i64 0,gS]
def ZE:bv:=jY 9
def Yx:bv:=jY 142
def rD:bv:=fM 2 32 #[b3 "No" 3 0 "" 0,b3 "All" 104 1 "" 8] [.int .i64 0,gS]
def lV:bv:=fM 2 24 #[b3 "Name" 3 0 "" 0,b3 "Body" 9 1 "" 8] [.int .i64 0,.V []] [.int .i64,.string]
def Ya:dO V 131 lV:=⟨underlying131,rfl,⟨_,_,hu type131,rfl,rfl,rfl,rfl,⟨_,rfl⟩,rfl⟩,λ_=>od (h4:=[b3 "Name" 3 0 "" 0,b3 "Body" 9 1 "" 8]) underlying131 l9 eqGuardType131 ⟨by decide,rfl,underlying3,v,by decide,rfl,underlying9,v,v⟩⟩
def s0:bv:=fM 2 16 #[b3 "By" 3 0 "" 0,b3 "Snap" 3 1 "" 8] [.int .i64 0,.int .i64 0] [.int .i64,.int .i64]
def Yb:dO V 140 s0:=⟨underlying140,rfl,⟨_,_,hu type140,rfl,rfl,rfl,rfl,⟨_,rfl⟩,rfl⟩,λ_=>od (h4:=[b3 "By" 3 0 "" 0,b3 "Snap" 3 1 "" 8]) underlying140 l9 eqGuardType140 ⟨by decide,rfl,underlying3,v,by decide,rfl,underlying3,v,v⟩⟩
def yk:bv:=fM 2 40 #[b3 "Path" 9 0 "" 0,b3 "Names" 28 1 "" 16] [.V [],gS]
def Yz:bv:=jY 91
def YA:bv:=fM 3 72 #[b3 "packed" 143 0 lj 0 f,b3 "snaps" 24 1 lj 24,b3 "log" 25 2 lj 48] [gS,gS,gS]
def YB:bv:=kt 27
def YC:bv:=⟨1,16,m,TypeDesc.interface #[("Error",344)],[.bo],[]⟩
def YD:bv:=kt 194
def YE:bv:=kt 159
def YG:bv:=kt 30
def YH:bv:=jY 222
def YI:bv:=kt 240
def JC:bv:=fM 1 16 #[b3 "what" 9 0 lj 0] [.V []] [.string]
def Yc:dO V 194 JC:=⟨underlying194,rfl,⟨_,_,hu type194,rfl,rfl,rfl,rfl,⟨_,rfl⟩,rfl⟩,λ_=>od (h4:=[b3 "what" 9 0 lj 0]) underlying194 l9 eqGuardType194 ⟨by decide,rfl,underlying9,v,v⟩⟩
def YJ:bv:=⟨1,8,m,TypeDesc.unsafePointer,[.bc],[]⟩
def YL:bv:=jX 8 .u64
def YM:bv:=fM 3 24 #[b3 "typ_" 17 0 "internal/reflectlite" 0,b3 "ptr" 199 1 "internal/reflectlite" 8,b3 "flag" 200 2 "internal/reflectlite" 16 f] [.bc,.bc,.int .u64 0]
def YN:bv:=⟨1,16,m,TypeDesc.interface #[("AssignableTo",210),("Comparable",209),("Elem",206),("Implements",210),("Kind",208),("Name",344),("PkgPath",344),("Size",399),("String",344),("internal/reflectlite.common",392),("internal/reflectlite.uncommon",400)],[.bo],[]⟩
def YO:bv:=jX 1 .u8
def oj:bv:=fM 2 16 #[b3 "Name" 3 0 "" 0,b3 "Pack" 3 1 "" 8] [.int .i64 0,.int .i64 0] [.int .i64,.int .i64]
def Yd:dO V 222 oj:=⟨underlying222,rfl,⟨_,_,hu type222,rfl,rfl,rfl,rfl,⟨_,rfl⟩,rfl⟩,λ_=>od (h4:=[b3 "Name" 3 0 "" 0,b3 "Pack" 3 1 "" 8]) underlying222 l9 eqGuardType222 ⟨by decide,rfl,underlying3,v,by decide,rfl,underlying3,v,v⟩⟩
def YS:bv:=jX 8 .u64
def YU:bv:=fM 3 24 #[b3 "head" 140 0 lj 0,b3 "next" 185 2 lj 16] [.int .i64 0,.int .i64 0,.bc]
def YV:bv:=kt 305
def YW:bv:=kt 248
def CQ:bv:=jY 131
def YY:bv:=⟨1,16,m,TypeDesc.interface #[("As",259)],[.bo],[]⟩
def YZ:bv:=⟨1,16,m,TypeDesc.interface #[("Unwrap",261)],[.bo],[]⟩
def Y0:bv:=⟨1,16,m,TypeDesc.interface #[("Unwrap",264)],[.bo],[]⟩
def Y1:bv:=jY 156
def Y3:bv:=jX 8 .i64
def Y5:bv:=jX 4 .u32
def Y6:bv:=jX 8 .u64
def yl:bv:=jY 294
def Y7:bv:=fM 0 0 #[] []
def Y8:bv:=fM 0 0 #[] []
def Y9:bv:=fM 0 0 #[] []
def Y_:bv:=fM 1 8 #[b3 "_" 287 0 "sync/atomic" 0,b3 "_" 288 0 "sync/atomic" 0,b3 "v" 283 0 "sync/atomic" 0] [.int .u64 0]
def Y':bv:=fM 2 16 #[b3 "noCopy" 286 0 "sync" 0,b3 "state" 290 0 "sync" 0,b3 "sema" 281 1 "sync" 8] [.int .u64 0,.int .u32 0]
def qs:bv:=fM 2 24 #[b3 "piece" 9 0 lj 0,b3 "ok" 4 1 lj 16] [.V [],.bool m] [.string,.bool]
def Ye:dO V 294 qs:=⟨underlying294,rfl,⟨_,_,hu type294,rfl,rfl,rfl,rfl,⟨_,rfl⟩,rfl⟩,λ_=>od (h4:=[b3 "piece" 9 0 lj 0,b3 "ok" 4 1 lj 16]) underlying294 l9 eqGuardType294 ⟨by decide,rfl,underlying9,v,by decide,rfl,underlying4,v,v⟩⟩
def Za:bv:=jY 179
def Zc:bv:=fM 4 32 #[b3 "spot" 222 0 lj 0,b3 "left" 244 2 lj 16,b3 "right" 244 3 lj 24] [.int .i64 0,.int .i64 0,.bc,.bc]
def Zd:bv:=jX 8 .i64
def Ze:bv:=⟨1,16,m,TypeDesc.interface #[("Len",241),("Less",276),("Pop",317),("Push",313),("Swap",315)],[.bo],[]⟩
def Zf:bv:=jX 8 .u64
def Zg:bv:=kt 3
def Zi:bv:=kt 341
def Zj:bv:=fM 2 32 #[b3 "addr" 339 0 "strings" 0,b3 "buf" 22 1 "strings" 8] [.bc,gS]
def Zl:bv:=kt 353
def Zm:bv:=kt 5
def Zn:bv:=⟨1,16,m,TypeDesc.interface #[("Is",371)],[.bo],[]⟩
def JD:bv:=fM 2 2 #[b3 "lo" 5 0 "unicode/utf8" 0,b3 "hi" 5 1 "unicode/utf8" 1] [.int .u8 0,.int .u8 0] [.int .u8,.int .u8]
def Yg:dO V 384 JD:=⟨underlying384,rfl,⟨_,_,hu type384,rfl,rfl,rfl,rfl,⟨_,rfl⟩,rfl⟩,λ_=>od (h4:=[b3 "lo" 5 0 "unicode/utf8" 0,b3 "hi" 5 1 "unicode/utf8" 1]) underlying384 l9 eqGuardType384 ⟨by decide,rfl,underlying5,v,by decide,rfl,underlying5,v,v⟩⟩
def Zp:bv:=⟨32,32,f,TypeDesc.array 16 384,[.int .u8 0,.int .u8 0,.int .u8 0,.int .u8 0,.int .u8 0,.int .u8 0,.int .u8 0,.int .u8 0,.int .u8 0,.int .u8 0,.int .u8 0,.int .u8 0,.int .u8 0,.int .u8 0,.int .u8 0,.int .u8 0,.int .u8 0,.int .u8 0,.int .u8 0,.int .u8 0,.int .u8 0,.int .u8 0,.int .u8 0,.int .u8 0,.int .u8 0,.int .u8 0,.int .u8 0,.int .u8 0,.int .u8 0,.int .u8 0,.int .u8 0,.int .u8 0],[]⟩
def Zq:bv:=kt 404
def Zr:bv:=⟨0,0,f,TypeDesc.array 0 16,[],[]⟩
def Zs:bv:=fM 0 0 #[b3 "_" 389 0 "runtime" 0] []
def Zt:bv:=jX 1 .u8
def Zu:bv:=jX 4 .i32
def Zv:bv:=jX 4 .i32
def Zw:bv:=fM 11 48 #[b3 "Size_" 12 0 "" 0,b3 "PtrBytes" 12 1 "" 8,b3 "Hash" 281 2 "" 16,b3 "TFlag" 393 3 "" 20,b3 "Align_" 5 4 "" 21,b3 "FieldAlign_" 5 5 "" 22,b3 "Kind_" 207 6 "" 23,b3 "Equal" 394 7 "" 24,b3 "GCData" 368 8 "" 32,b3 "Str" 395 9 "" 40,b3 "PtrToThis" 396 10 "" 44] [.int .u64 0,.int .u64 0,.int .u32 0,.int .u8 0,.int .u8 0,.int .u8 0,.int .u8 0,.da,.bc,.int .i32 0,.int .i32 0]
def JE:bv:=fM 1 16 #[b3 "s" 9 0 "errors" 0] [.V []] [.string]
def Yh:dO V 404 JE:=⟨underlying404,rfl,⟨_,_,hu type404,rfl,rfl,rfl,rfl,⟨_,rfl⟩,rfl⟩,λ_=>od (h4:=[b3 "s" 9 0 "errors" 0]) underlying404 l9 eqGuardType404 ⟨by decide,rfl,underlying9,v,v⟩⟩
def eP:p (Nat×bv):=[(2,cc),(3,ec),(4,fv),(5,Zy),(6,ZC),(8,i8),(9,s3),(12,Yy),(16,i16),(17,YF),(20,YK),(21,YP),(22,YQ),(23,YR),(24,YT),(25,YX),(27,Y2),(28,Y4),(30,Zb),(32,i32),(33,Zh),(35,Zk),(36,CR),(38,Zo),(46,qt),(48,Zx),(53,Zz),(55,ZA),(56,ZB),(61,ym),(66,ZD),(89,CS),(91,np),(97,ZE),(104,Yx),(106,rD),(131,lV),(140,s0),(142,yk),(143,Yz),(145,YA),(154,YB),(156,YC),(159,YD),(161,YE),(171,YG),(179,YH),(185,YI),(194,JC),(199,YJ),(200,YL),(202,YM),(205,YN),(207,YO),(222,oj),(231,YS),(240,YU),(244,YV),(247,YW),(248,CQ),(257,YY),(260,YZ),(262,Y0),(263,Y1),(272,Y3),(281,Y5),(283,Y6),(284,yl),(286,Y7),(287,Y8),(288,Y9),(290,Y_),(292,Y'),(294,qs),(299,Za),(305,Zc),(306,Zd),(312,Ze),(320,Zf),(324,Zg),(339,Zi),(341,Zj),(357,Zl),(368,Zm),(369,Zn),(384,JD),(385,Zp),(386,Zq),(389,Zr),(391,Zs),(393,Zt),(395,Zu),(396,Zv),(398,Zw),(404,JE)]
def bd:bn V eP:=bn.ay underlying2 type2 ( bn.ay underlying3 type3 ( bn.ay underlying4 type4 ( bn.ay underlying5 type5 ( bn.ay underlying6 type6 ( bn.ay underlying8 type8 ( bn.ay underlying9 type9 ( bn.ay underlying12 type12 ( bn.ay underlying16 type16 ( bn.ay underlying17 type17 ( bn.ay underlying20 type20 ( bn.ay underlying21 type21 ( bn.ay underlying22 type22 ( bn.ay underlying23 type23 ( bn.ay underlying24 type24 ( bn.ay underlying25 type25 ( bn.ay underlying27 type27 ( bn.ay underlying28 type28 ( bn.ay underlying30 type30 ( bn.cons Yf ( bn.ay underlying33 type33 ( bn.ay underlying35 type35 ( bn.ay underlying36 type36 ( bn.ay underlying38 type38 ( bn.cons Yi ( bn.ay underlying48 type48 ( bn.ay underlying53 type53 ( bn.ay underlying55 type55 ( bn.ay underlying56 type56 ( bn.cons Yj ( bn.ay underlying66 type66 ( bn.ay underlying89 type89 ( bn.ay underlying91 type91 ( bn.ay underlying97 type97 ( bn.ay underlying104 type104 ( bn.ay underlying106 type106 ( bn.cons Ya ( bn.cons Yb ( bn.ay underlying142 type142 ( bn.ay underlying143 type143 ( bn.ay underlying145 type145 ( bn.ay underlying154 type154 ( bn.ay underlying156 type156 ( bn.ay underlying159 type159 ( bn.ay underlying161 type161 ( bn.ay underlying171 type171 ( bn.ay underlying179 type179 ( bn.ay underlying185 type185 ( bn.cons Yc ( bn.ay underlying199 type199 ( bn.ay underlying200 type200 ( bn.ay underlying202 type202 ( bn.ay underlying205 type205 ( bn.ay underlying207 type207 ( bn.cons Yd ( bn.ay underlying231 type231 ( bn.ay underlying240 type240 ( bn.ay underlying244 type244 ( bn.ay underlying247 type247 ( bn.ay underlying248 type248 ( bn.ay underlying257 type257 ( bn.ay underlying260 type260 ( bn.ay underlying262 type262 ( bn.ay underlying263 type263 ( bn.ay underlying272 type272 ( bn.ay underlying281 type281 ( bn.ay underlying283 type283 ( bn.ay underlying284 type284 ( bn.ay underlying286 type286 ( bn.ay underlying287 type287 ( bn.ay underlying288 type288 ( bn.ay underlying290 type290 ( bn.ay underlying292 type292 ( bn.cons Ye ( bn.ay underlying299 type299 ( bn.ay underlying305 type305 ( bn.ay underlying306 type306 ( bn.ay underlying312 type312 ( bn.ay underlying320 type320 ( bn.ay underlying324 type324 ( bn.ay underlying339 type339 ( bn.ay underlying341 type341 ( bn.ay underlying357 type357 ( bn.ay underlying368 type368 ( bn.ay underlying369 type369 ( bn.cons Yg ( bn.ay underlying385 type385 ( bn.ay underlying386 type386 ( bn.ay underlying389 type389 ( bn.ay underlying391 type391 ( bn.ay underlying393 type393 ( bn.ay underlying395 type395 ( bn.ay underlying396 type396 ( bn.ay underlying398 type398 ( bn.cons Yh (bn.nil)))))))))))))))))))))))))))))))))))))))))))))))))))))))))))))))))))))))))))))))))))))))))))))))
end R1
abbrev bE:=p UInt8
abbrev bZ(a:bE):z:=ax (.V a)
abbrev S(a:Int):z:=ax (.int .i64 a)
abbrev uT(a:Int):z:=ax (.int .u8 a)
abbrev bi(a:Bool):z:=ax (.bool a)
def xg{b}:kF b e=b.getD e 0:=rfl
namespace R1
variable {r:ai V}
def b5:Tryz.prog.follows Departure.mixedOrders=f:=rfl
def qI{b:ai V}{CT}(i:a8 b CT)(bg){D}{be}(k){ar j}{F a}{n ao}{e}(l:AM.kQ eP CT bg D k ar F n []=h (j,a,ao,e))(d:U e)(o:g b D be j .normal a ao):g b D be ar .normal F n:=g.aU b5 bd i bg k l d o
def gI{d:ai V}(bg){D}{be}(k){ar j}{F a}{n ao}{e}(i:AM.kQ eP [] bg D k ar F n []=h (j,a,ao,e))(b:U e)(l:g d D be j .normal a ao):g d D be ar .normal F n:=g.aU b5 bd a8.nil bg k i b l
def aZ{d:ai V}{D}{be}{ar j}{F a}{n ao}{e}(i:AM.kQ eP [] [] D 100 ar F n []=h (j,a,ao,e))(b:U e)(k:g d D be j .normal a ao):g d D be ar .normal F n:=g.aU b5 bd a8.nil [] 100 i b k
def cr{d:ai V}{D}{be}{ar j}{F a}{n ao}{e}(i:AM.kQ eP [] [] D 200 ar F n []=h (j,a,ao,e))(b:U e)(k:g d D be j .normal a ao):g d D be ar .normal F n:=g.aU b5 bd a8.nil [] 200 i b k
def a_{b:ai V}{CT}(i:a8 b CT)(bg){D}{be}{ar j}{F a}{n ao}{e}(k:AM.kQ eP CT bg D 100 ar F n []=h (j,a,ao,e))(d:U e)(l:g b D be j .normal a ao):g b D be ar .normal F n:=g.aU b5 bd i bg 100 k d l
def bf{b:ai V}{CT}(i:a8 b CT)(bg){D}{be}{ar j}{F a}{n ao}{e}(k:AM.kQ eP CT bg D 200 ar F n []=h (j,a,ao,e))(d:U e)(l:g b D be j .normal a ao):g b D be ar .normal F n:=g.aU b5 bd i bg 200 k d l
def a6{d:ai V}(bg){D}{be}{ar j}{F a}{n ao}{e}(i:AM.kQ eP [] bg D 100 ar F n []=h (j,a,ao,e))(b:U e)(k:g d D be j .normal a ao):g d D be ar .normal F n:=g.aU b5 bd a8.nil bg 100 i b k
def bP{d:ai V}(bg){D}{be}{ar j}{F a}{n ao}{e}(i:AM.kQ eP [] bg D 200 ar F n []=h (j,a,ao,e))(b:U e)(k:g d D be j .normal a ao):g d D be ar .normal F n:=g.aU b5 bd a8.nil bg 200 i b k
def b_{b:ai V}{CT}(i:a8 b CT){D}{be}{ar j}{F a}{n ao}{e}(k:AM.kQ eP CT [] D 100 ar F n []=h (j,a,ao,e))(d:U e)(l:g b D be j .normal a ao):g b D be ar .normal F n:=g.aU b5 bd i [] 100 k d l
def cG{b:ai V}{CT}(i:a8 b CT){D}{be}{ar j}{F a}{n ao}{e}(k:AM.kQ eP CT [] D 200 ar F n []=h (j,a,ao,e))(d:U e)(l:g b D be j .normal a ao):g b D be ar .normal F n:=g.aU b5 bd i [] 200 k d l
def li(a:Int):Bool:=decide (97<=a)&&decide (a<=101)
theorem VX(j):Y r 97 [uT j] [] (bi (li j)) []:=by
 refine Y.K func97 rfl λ_=>?_;by_cases b:97<=j
 .refine a6 [(4,f)] a ?_ (g.aw a ?_)<;>simp[b,li]
 refine a6 [(4,m)] a ?_ (g.aw a ?_)<;>simp[b,li]
def jl(a:UInt8):Bool:=decide (97<=a.toNat)&&decide (a.toNat<=122)
def dZ(a:bE):Bool:=a.all jl
def aaf{b}(d:∀a,a<c b->jl (b.getD a 0)=f):dZ b=f:=by simp[dZ,List.all_eq_true];grind[List.getElem_of_mem]
def aac{b}(e:w<c b)(d:jl (b.getD w 0)=m):dZ b=m:=by
 cases a:dZ b with
 |false=>rfl
 |true=>
  simp[dZ,List.all_eq_true]at a;grind
theorem Vr(b):Y r 98 [bZ b] [] (bi (dZ b)) []:=by
 refine Y.K func98 rfl λe=>?_;have n:=e.V 0 a;refine aZ a v (g.ee (λd=>d<=c b/\∀w,w<d->jl (b.getD w 0)=f) (λd:Nat=>[(0,bZ b),(3,S d)]) (λ_=>[]) (λd=>c b-d) 0 a E ⟨by omega,by omega⟩ a ?_);rintro d ⟨i,s⟩;by_cases u:d<c b
 .generalize x:b.getD d 0=j;by_cases l:j.toNat<97
  .refine a6 [(7,f),(13,f)] a ?_ (g.bX (bT.zero a ?_))
   .simp only[U,xg,bA,x];omega
   exact zH
  by_cases k:j.toNat>122
  .refine a6 [(7,f),(13,m),(18,f)] a PX (g.bX (bT.zero a ?_));exact zH
  refine a6 [(7,f),(13,m),(18,m)] a NT (g.again (d+1) a E ?_ ?_ a)
  .refine⟨by omega,λw I=>?_⟩;rcases Ar.1 I with I|rfl
   .grind
   rw[x];simp[jl,cF,bA];omega
  omega
 exact Og
end R1
def Y.args{P:aI}{i:ai P}{j}{args a}{n ao}{res}(k:Y i j a n res ao)(e:∀b B,b4 n b B args->b4 n b B a):Y i j args n res ao:=
 ⟨k.1,λb B g d=>k.2 b B (e b B g) d⟩
def jU(d:Nat):z->Option (Nat×(Nat->p N))
 |.q (.aq (.c (.S _ e b a)))=>match af e d with
  |true=>h (b,a)
  |false=>match af b 0 with
   |true=>h (0,λ_=>[])
   |false=>q
 |_=>q
def aco{C}{s}{k}{e:Nat->p N}(a:jU C s=h (k,e)){n}{b}{aa}(t:bx n b aa s):Rd b.u aa (.S m C k e):=by
 unfold jU at a;split at a
 .rename_i o i d dI;split at a
  .rename_i g;have l:=di g;subst l;cases a;exact(b6 t).ef
  split at a
  .rename_i w;have l:=di w;subst l;cases a;have r:=b6 t;cases r with
   |S v j x u D F g z A B=>exact Rd.S v j x u D E y y y y
  grind
 grind
def gr{b:Type}(d:b->p N)(a:b)(g:p b):Nat->p N:=λe=>d (g.getD e a)
structure cY(α:Type) where
 bk:Nat
 a8:α->p N
 cm:p N->α
 I:α
 inv:∀x,cm (a8 x)=x
 len:∀x,c (a8 x)=bk
namespace cY
variable {α:Type}(s:cY α)
def af(d:Nat)(a:Nat->p N):p α:=(aD d).map λb=>s.cm (a b)
def fn(a:p α):Nat->p N:=gr s.a8 s.I a
def bW(d:Nat)(a:Nat->p N):Prop:=∀b,b<d->a b=s.a8 (s.cm (a b))
def S(a:p α):z:=ax (.S m s.bk (c a) (s.fn a))
def ju{k}{a:Nat->p N}:c (s.af k a)=k:=by simp[af]
def E(d):s.af (c d) (s.fn d)=d:=by
 apply rf
 .simp[af]
 intro e b a;simp[af,fn,gr,al,bI a,s.inv]
def U(d){k}:s.bW k (s.fn d):=λa _=>by simp[fn,gr,s.inv]
def iQ{k}{a:Nat->p N}(d:s.bW k a):bt k a (s.fn (s.af k a)):=by intro e b;rw[d e b];simp[fn,gr,af,al,b]
def cC{d}{k}{a:Nat->p N}(j:jU s.bk d=h (k,a))(g:s.bW k a){n}{b}{aa}(l:bx n b aa d):bx n b aa (s.S (s.af k a)):=by have e:=aco j l;have i:=e.cB (s.iQ g);show Rd b.u aa (.S m s.bk (c (s.af k a)) _);rw[s.ju];exact i
end cY
def dj(b:bE)(a:Nat):Int:=(b.getD a 0).toNat
theorem ka(b)(w):((kF b w).toNat:Int)=dj b w.toNat:=rfl
abbrev c':=bE×bE
def vU(a:p N)(b:Nat):bE:=match c6 b a with|some (.V d)=>d|_=>[]
def s8(a:p N)(b:Nat):Int:=match c6 b a with|some (.int _ d)=>d|_=>0
def bD:cY c':={bk:=2,a8:=λb=>[.V b.1,.V b.2],cm:=λa=>(vU a 0,vU a 1),I:=([],[]),inv:=λ_=>rfl,len:=λ_=>rfl}
namespace R1
variable {r:ai V}
def Bj:bK:=λargs a=>match args,a with
 |[.q (.aq (.c (.int .u8 b)))],[]=>h (bi (li b),[],[])
 |_,_=>q
def t97:bL r 97 Bj:=by intro args g b d a e _;unfold Bj at e;grind[VX]
def xi:bK:=λargs a=>match args,a with
 |[.q (.aq (.c (.V b)))],[]=>h (bi (dZ b),[],[])
 |_,_=>q
def Mm:bL r 98 xi:=by intro args g b d a e _;unfold xi at e;grind[Vr]
def HE:p (Nat×bK):=[(97,Bj),(98,xi)]
def qc:a8 r HE:=a8.cons t97 (a8.cons Mm a8.nil)
def fK(a:bE):Bool:=if c a=1 then li (dj a 0)else if c a=3 then li (dj a 0)&&(dj a 1==47)&&li (dj a 2)else m
theorem Wq(b):Y r 56 [bZ b] [] (bi (fK b)) []:=by
 refine Y.K func56 rfl λi=>?_;by_cases aj:c b=1
 .refine a_ qc [(6,f)] a zY (g.aw a ?_);simp[fK,aj,ka]
 by_cases d:c b=3
 .by_cases j:li (dj b 0)=f
  .by_cases e:dj b 1=47
   .refine a_ qc [(6,m),(11,f),(14,f),(18,f)] a ?_ (g.aw a ?_)
    .simp[d,ka,j,e]
    simp[fK,d,j,e,ka]
   refine a_ qc [(6,m),(11,f),(14,f),(18,m)] a ?_ (g.aw a ?_)
   .simp[d,ka,j,e]
   simp[fK,d,j,e]
  refine a_ qc [(6,m),(11,f),(14,m)] a ?_ (g.aw a ?_)
  .simp[d,ka,j]
  simp[fK,d,j]
 refine a_ qc [(6,m),(11,m)] a bX (g.aw a ?_);simp[fK,aj,d]
def fC(a:bE):Bool:=decide (c a<=40)&&dZ a
theorem Xn(b):Y r 57 [bZ b] [] (bi (fC b)) []:=by
 refine Y.K func57 rfl λe=>?_;by_cases d:c b<=40
 .refine a_ qc [(5,f)] a bX (g.aw a ?_);simp[fC,d]
 refine a_ qc [(5,m)] a bX (g.aw a ?_);simp[fC,d]
def k7(a b:bE):Bool:=(c a != c b)&&(dj a 0==dj b 0)
def TF(b j)(d:b≠[])(e:j≠[]):Y r 58 [bZ b,bZ j] [] (bi (k7 b j)) []:=by
 have k:=AA.2 d;have i:=AA.2 e;refine Y.K func58 rfl λl=>?_;by_cases I:c b=c j
 .refine a6 [(9,m)] a r' (g.aw a ?_);simp[k7,I]
 refine a6 [(9,f)] a bw (g.aw a ?_);simp[k7,I,ka]
end R1
def q4(d a:p an):Prop:=∀b,bb d b->bb a b/\cN d b a b/\∀g(e:z),bx d b g e->bx a b g e
def CZ:an->an->Option (p Prop)
 |.r i s k d,.r a e g b=>match af i a,af s e with
  |true,f=>h [k=g,bt k d b]
  |_,_=>q
 |.cells i r,.cells a j=>match af i a with
  |true=>qx r j
  |false=>q
 |.x,.x=>h []
 |.J H,.J l=>h [H=l]
 |.loop v u w,.loop o n t=>h [an.loop v u w=an.loop o n t]
 |.bn,.bn=>h []
 |.h i s k d,.h a e g b=>match af i a,af s e with
  |true,f=>h [k=g,bt k d b]
  |_,_=>q
 |_,_=>q
def jk:p an->p an->Option (p Prop)
 |[],[]=>h []
 |b::i,d::g=>match CZ b d with
  |some e=>match jk i g with
   |some a=>h (gA e a)
   |none=>q
  |none=>q
 |_,_=>q
def wC(k e:an):Prop:=
 (∀d i g a,k=.r d i g a->∃b,e=.r d i g b/\bt g a b)/\((∀d i g a,k≠.r d i g a)->(∀d i g a,e≠.r d i g a)/\(k=e∨(∃d l j,k=.cells d l/\e=.cells d j/\∀n o B,bM n o B l->bM n o B j)∨∃d i g a b,k=.h d i g a/\e=.h d i g b/\bt g a b))
theorem Z8{A g}(d:CZ A g=h ab)(l:U ab):wC A g:=by
 unfold CZ at d;split at d
 .rename_i W i k T j x e b;split at d
  .rename_i s v;cases d;have n:=di s;have w:=di v;obtain⟨t,D⟩:k=e/\bt k T b:=l;subst n w t;refine⟨λeH J M C he=>?_,λK=>absurd a (K _ _ _ _)⟩;grind
  grind
 .rename_i W ah j o;split at d
  .rename_i s;have n:=di s;subst n;exact⟨λ_ _ _ _ he=>qY,λ_=>⟨λ_ _ _ _ he=>qY,.inr (.inl ⟨W,ah,o,a,a,λN O B y=>C1 d l y⟩)⟩⟩
  grind
 .exact E6
 .cases d;rename_i H p;have u:H=p:=l;subst u;exact E6
 .cases d;rename_i F E y I r z;have u:an.loop F E y=an.loop I r z:=l;exact⟨λ_ _ _ _ he=>qY,λ_=>⟨λ_ _ _ _ he=>qY,.inl u⟩⟩
 .exact E6
 .rename_i W i k T j x e b;split at d
  .rename_i s v;cases d;have n:=di s;have w:=di v;obtain⟨t,D⟩:k=e/\bt k T b:=l;subst n w t;exact⟨λ_ _ _ _ he=>qY,λ_=>⟨λ_ _ _ _ he=>qY,.inr (.inr ⟨W,i,k,T,b,a,a,D⟩)⟩⟩
  grind
 grind
def JW:∀{i d:p an}{e:p Prop},jk i d=h e->U e->c d=c i/\∀(j:Nat)g b,i[j]?=h g->d[j]?=h b->wC g b
 |[],[],_,_,_=>⟨rfl,λj g b a=>by grind⟩
 |[],_::_,_,a,_=>by cases a
 |_::_,[],_,a,_=>by cases a
 |l::v,n::u,e,a,k=>by
  simp only[jk]at a;split at a
  .rename_i t o;split at a
   .rename_i afe dp;cases a;rw[U.Y]at k;obtain⟨s,r⟩:=JW dp k.2;grind[Z8]
   grind
  grind
def jN(D:jk n ao=h ab)(ae:U ab):q4 n ao:=by
 obtain⟨ax,aF⟩:=JW D ae;intro C G;have aA:∀(j:Nat) r,n[j]?=h r->∃s,ao[j]?=h s/\wC r s:=M;have get:∀(j:Nat) (s:an),ao[j]?=h s->∃r,n[j]?=h r/\wC r s:=M;have az:∀(j:Nat),(∀r,n[j]?=h r->r.dN=m)->∀r,ao[j]?=h r->r.dN=m:=by
  intro j ad s o;obtain⟨r,aE,x⟩:=get j _ o;have aw:=ad r aE;rcases(x.2 (λg i k b v=>by rw[v]at aw;cases aw)).2 with rfl|⟨g,e,N,rfl,rfl,_⟩|⟨g,i,k,b,d,rfl,rfl,_⟩
  .omega
  .rfl
  exact cQ
 have aP:∀(j:Nat) g i k b,ao[j]?=h (an.h g i k b)->∃d,n[j]?=h (an.h g i k d):=by
  intro j g i k b o;obtain⟨r,aE,x⟩:=get j _ o;by_cases A:∃g i k b,r=an.r g i k b
  .obtain⟨E1,k1,ah,lO,rfl⟩:=A;obtain⟨d,t,_⟩:=x.1 _ _ _ _ rfl;cases t
  rcases(x.2 (λg i k b v=>A ⟨g,i,k,b,v⟩)).2 with rfl|⟨g,e,N,rfl,D,_⟩|⟨g,i,k,b,d,rfl,D,_⟩
  .grind
  .cases D
  grind
 have aL:∀(j:Nat) g i k b,ao[j]?=h (an.r g i k b)->∃d,n[j]?=h (an.r g i k d):=by
  intro j g i k b o;obtain⟨r,aE,x⟩:=get j _ o;by_cases A:∃g i k b,r=an.r g i k b
  .obtain⟨E1,k1,ah,lO,rfl⟩:=A;obtain⟨d,t,_⟩:=x.1 _ _ _ _ rfl;grind
  exact absurd a ((x.2 (λg i k b v=>A ⟨g,i,k,b,v⟩)).1 g i k b)
 have ar:∀(y:Z) (R:O),cw n C y R->cw ao C y R:=by
  intro y R l;cases R with
  |c aJ=>exact l
  |ptr j aQ=>exact⟨az j l.1,l.2⟩
  |r j i k b=>
   refine⟨l.1,by rw[ax];exact l.2.1,λg I J d o=>?_⟩;obtain⟨kH,u⟩:=aL j g I J d o;exact l.2.2 g I J kH u
  |aQ j=>exact⟨az j l.1,l.2⟩
  |R j aR=>
   obtain⟨ag,ai,aG,aH⟩:=l;refine⟨ag,ai,by grind,λg I J d o=>?_⟩;grind
  |any=>exact l
 have aj:∀(B:p Z) (e:p O),bM n C B e->bM ao C B e:=by
  intro B;induction B with
  |nil=>intro e l;cases e with|nil=>trivial|cons _ _=>exact l.elim
  |cons y B F=>intro e l;cases e with|nil=>exact l.elim|cons aC e=>exact⟨ar _ _ l.1,F _ l.2⟩
 have au:∀(y:Z) (v:E1),er n C y v->er ao C y v:=by
  intro y v l;cases v with
  |aq R=>exact ar _ _ l
  |agg e=>obtain⟨B,t,u⟩:=l;exact⟨B,t,aj _ _ u⟩
 have aM:∀(B:p Z) (e:p E1),eQ n C B e->eQ ao C B e:=by
  intro B;induction B with
  |nil=>intro e l;cases e with|nil=>trivial|cons _ _=>exact l.elim
  |cons y B F=>intro e l;cases e with|nil=>exact l.elim|cons aC e=>exact⟨au _ _ l.1,F _ l.2⟩
 have av:∀(y:Z) (T:z),bx n C y T->bx ao C y T:=by
  intro y T l;cases T with
  |q aJ=>exact au _ _ l
  |Q aK=>obtain⟨B,t,u⟩:=l;exact⟨B,t,aM _ _ u⟩
  |any=>trivial
 refine⟨⟨G.mem,by rw[G.len,ax],?_,G.a3,G.lt,G.own⟩,⟨bC _,λ_ _ _=>rfl,λ_ _ _ D=>D,λ_ _ _ _=>rfl,λL D Q w=>.inr ⟨L,D,w⟩,?_,a,a,a,a⟩,av⟩
 .intro j s L ak W;obtain⟨r,aE,x⟩:=get j s ak;have w:=G.box j r L aE W;by_cases A:∃g i k b,r=an.r g i k b
  .obtain⟨g,i,k,b,rfl⟩:=A;obtain⟨d,rfl,o⟩:=x.1 _ _ _ _ rfl;refine⟨w.1.cB o,?_⟩;rcases w.2 with⟨t,u⟩|t
   .exact .inl ⟨t,u.cB o⟩
   grind
  rcases(x.2 (λg i k b v=>A ⟨g,i,k,b,v⟩)).2 with rfl|⟨g,e,N,rfl,rfl,S⟩|⟨g,i,k,b,d,rfl,rfl,S⟩
  .cases r with
   |cells g e=>obtain⟨Q,B,t,u,E,K⟩:=w;exact⟨Q,B,t,u,aj _ _ E,K⟩
   |r g i k b=>grind
   |J H=>exact w
   |x=>trivial
   |loop aO aN l=>obtain⟨j,tmps,fn,aB,t,u,E,K,V⟩:=w;exact⟨j,tmps,fn,aB,t,u,E,λaI=>av _ _ (K aI),V⟩
   |bn=>exact w
   |h g i k b=>exact w
  .obtain⟨Q,B,t,u,E,K⟩:=w;exact⟨Q,B,t,u,aj _ _ (S _ _ _ E),K⟩
  rcases w with w|⟨Q,X,B,aq,t,u,E,K,V,Y,aa⟩
  .exact .inl w
  exact .inr ⟨Q,X,B,aq,t,u,E,K,V,Y.cB S,aa⟩
 intro j r L aE W;obtain⟨s,ak,x⟩:=aA j r aE;refine⟨s,L,ak,W,?_⟩;by_cases A:∃g i k b,r=an.r g i k b
 .obtain⟨g,i,k,b,rfl⟩:=A;obtain⟨d,rfl,o⟩:=x.1 _ _ _ _ rfl;exact⟨λ_=>rfl,bC _⟩
 rcases(x.2 (λg i k b v=>A ⟨g,i,k,b,v⟩)).2 with rfl|⟨g,e,N,rfl,rfl,S⟩|⟨g,i,k,b,d,rfl,rfl,_⟩
 .exact fD.refl _ _
 .exact a
 exact⟨λ_=>rfl,bC _⟩
section
variable {r:ai P}
theorem bY.aV{aM}{e}(E:∀d g,bV D n d F g->bb n d->∃a:a5,a.a=d.a/\bV D ao a e g/\bb ao a/\cN n d ao a)(K:bY r D s aM e ao):bY r D s aM F n:=by intro d g N b A u l z t p;obtain⟨a,M,C,x,w⟩:=E d g N b;have y:=w.tooU b;refine .aV (.of b x M y) ?_;exact K a g C x A u l z t λB I j v k O J o i=>p B I j v k O J o (y.trans i)
theorem g.aV{b}{ao}(i:∀d e,bV D n d F e->bb n d->∃a:a5,a.a=d.a/\bV D ao a b e/\bb ao a/\cN n d ao a)(j:g r D be (.code s::ar) .normal b ao):g r D be (.code s::ar) .normal F n:=
 bY.aV i j
def bV.al{i:Act}(a:q4 n ao)(e:bV D n b F i)(d:bb n b):bV D ao b F i:=⟨e.size,e.defers.imp λ_ g=>g.mono (a b d).2.1.ext,λj=>(a b d).2.2 _ _ (e.aH j)⟩
def g.ba(ao)(d:jk n ao=h ab)(b:U ab)(j:g r D be (.code s::ar) .normal F ao):g r D be (.code s::ar) .normal F n:=
 g.aV (λe k i a=>⟨e,rfl,i.al (jN d b) a,(jN d b e a).1,(jN d b e a).2.1⟩) j
def g.bP(o)(W)(i){f_}(y:look F o=ax (.S f f_ k T))(b:k=0)(t:g r D be (.code s::ar) .normal ((o,.q (.aq (.r (c n) i k T)))::F) (n++[.r W i k T])):g r D be (.code s::ar) .normal F n:=by
 refine g.aV (λj d e bO=>?_) t;have u:=e.aH o;rw[y]at u;have a:=Rd.fT (i:=f_) (f_:=i) (.inr b) (b6 u);have aE:ep (n++[.r W i k T]) {j with m:=j.m++[⟨d.tmps.getD o K,[]⟩]} (.r W i k T) ⟨d.tmps.getD o K,[]⟩:=⟨a.ef,.inl ⟨⟨rfl,b⟩,a⟩⟩;obtain⟨x,l⟩:=bO.b0 (.refl _ _) rfl bO aE E
 refine⟨{j with m:=j.m++[⟨d.tmps.getD o K,[]⟩]},rfl,⟨e.size,e.defers.imp λ_ a=>a.mono l.ext,λv=>?_⟩,x,l⟩;simp only[look];cases p:af o v with
 |false=>exact(e.aH v).mono l.ext bO.len
 |true=>
  have w:=di p;subst w;exact tp (L:=⟨d.tmps.getD o K,[]⟩) E tX aE
def g.ca{M:Type}(K:M->Prop)(e:M->bH)(b:M->p an)(w:M->Nat)(l){I:p Prop}(aC:iO F (e l)=h ab)(ak:U ab)(av:jk n (b l)=h I)(N:U I)(O:K l)(round:∀l,K l->g r D (λu A B=>match u with
   |.normal=>∃X,K X/\w X<w l/\ix A (e X)/\q4 B (b X)
   |u=>g r D be ar u A B) [.code s] .normal (e l) (b l)):g r D be (.code (.loop s)::ar) .normal F n:=by
 intro ag x ao y j Y T R W V;have ad:=jN av N;obtain⟨aA,aB,_⟩:=ad ag y;refine w7 (λk d az=>∃X,K X/\bV D (b X) az (e X) d/\bb (b X) az/\dc n ag (b X) az/\w X=k) ?_ ?_ ⟨l,O,(ao.le (eC aC ak)).al ad y,aA,aB.tooU y,a⟩
 .rintro k d az ⟨X,Z,o,C,Q,u⟩;exact⟨b X,C,λH v=>⟨X,Z,o.rely v C,C.rely v,Q.trans v.aR,u⟩⟩
 rintro k d az ⟨X,Z,o,C,Q,rfl⟩ G;refine round X Z az d o C j (.inLoop s::Y) T R W ?_;intro u aE aj J S ae ah i t;cases u with
 |normal=>
  obtain⟨ai,z,au,aq,aa⟩:=ae;obtain⟨ax,aw,_⟩:=aa J i;exact G S J (w ai) au ⟨ai,z,(ah.le aq).al aa i,ax,Q.trans (t.trans (aw.tooU i)),a⟩
 |_=>exact kG.cons (λ_ _=>rfl) E (V _ _ _ _ _ ae ah i (Q.trans t))
def g.b5{b:Type}{o:b->Prop}{e:b->bH}{i:b->p an}{x:b->Nat}{t:b}{k:fq}(X){dq}(u:iO F (e X)=h ab)(v:U ab)(j:jk n (i X)=h dq)(y:U dq)(z:o X)(s:x X<x t):
  g r D (λl a d=>match l with
   |.normal=>∃X,o X/\x X<x t/\ix a (e X)/\q4 d (i X)
   |l=>k l a d) [] .normal F n:=⟨X,z,s,eC u v,jN j y⟩
end
def Y.b1{w:ai P}{z}{args}{res d}(i:Y w z args [] res ao)(C:kk res d=h ab)(D:U ab)(x:hI 0 d=f):Y w z args [] d []:=by
 refine⟨i.1,λb B u k A o s=>i.2 b B u k A o λp F l t v g e=>?_⟩;have K:b.m=[]:=jy k.len;have E:eT l {l with m:=[]}:=⟨rfl,λ_ _ _ i=>i,λ_ _ _=>rfl,g.mem,λy j=>.inl M⟩
 refine .aV E (s p F {l with m:=[]} (t.mono λ_ _ _ i=>i) ?_ ⟨g.mem,rfl,by simp,by simp,by simp,λy j=>⟨(g.own y j).1,by simp⟩⟩ ⟨e.size,e.a6,e.mem,e.bF,by simp,λN J L aE=>by grind,e.os,e.tape,e.output,e.own⟩);have r:=pg C D v;have:=bx.sub (aO:=[]) (n:=ao) (ao:=[]) (b:=l) (lw:=[]) (I:=d) a a (by rw[Lv x];exact r) x;omega
section drop
variable {aL br:p an}
def vb(b:Nat):an->Bool
  |.cells _ a=>lg b a
  |.loop ..=>m
  |_=>f
def ki(a:Nat):p an->Bool
  |[]=>f
  |b::d=>match vb a b with|true=>ki a d|false=>m
def JM{k}:∀{e:p an},ki k e=f->∀a∈e,vb k a=f
  |[],_,a,aE=>by grind
  |g::i,b,a,aE=>by
    simp[ki]at b;cases d:vb k g with
    |false=>grind
    |true=>
      simp[d]at b;rcases fl.1 aE with rfl|aE
      · exact d
      · exact JM b a aE
def ep.fy{d}{L}(k:vb (c aL) d=f)(a:ep (aL++br) b d L):ep aL (b.cut (c aL)) d L:=by
  cases d with
  |cells j o=>
    obtain⟨l,B,g,i,p,n⟩:=a;exact⟨l,B,g,i,bM.cI p k,n⟩
  |r j r s e=>exact a
  |J H=>exact a
  |x=>trivial
  |loop u t v=>simp[vb]at k
  |bn=>exact a
  |h j r s e=>exact a
def bb.drop(u:bb (aL++br) b)(r:ki (c aL) aL=f):bb aL (b.cut (c aL)):=by
  have l:c aL<=c b.m:=EK;refine⟨u.mem,by simp[a5.cut,l],?_,?_,?_,λe a=>⟨(u.own e a).1,λL d=>(u.own e a).2 L (hc d)⟩⟩
  · intro i o L aE d
    have p:i<c aL:=(cO.1 aE).1;simp[a5.cut,ik,p,dH]at d;exact ep.fy (br:=br) (JM r o (b8 aE)) (u.box i o L M d)
  · intro i n L j d k e a g
    simp only[a5.cut,ik]at d k;split at d<;>split at k<;>first|exact u.a3 i n L j d k e a g|grind|grind
  · intro L d e a
    exact u.lt L (hc d) e a
def iX.drop(n:jO br=f):∀{e:p Deferred} {g:p Nat},iX (aL++br) b e g->iX aL (b.cut (c aL)) e g
  |[],[],_=>trivial
  |[],_::_,j=>j.elim
  |_::_,[],j=>j.elim
  |u::e,o::g,⟨⟨d,L,j,l,t⟩,r,s⟩=>by
    have i:o<c aL:=by
      rcases dY o (c aL) with k|k
      · exact k
      · rw[hl k]at d
        exact absurd a (vr n _ (b8 d))
    rw[ky i]at d;exact⟨⟨d,L,j,by simp[a5.cut,ik,i,dH];exact l,t⟩,r,iX.drop n s⟩
def vu(b:Nat)(a:p an):Bool:=match ay b (c a) with|true=>jO (a.drop b)|false=>m
theorem yF(a:vu k n=f):ay k (c n)=f/\jO (n.drop k)=f:=by unfold vu at a;grind
end drop
def qw(a:Nat):bH->Bool
  |[]=>f
  | (_,b)::d=>match hI a b with|true=>qw a d|false=>m
def vc{k}:∀{d:bH} {a:Nat},qw k d=f->hI k (look d a)=f
  |[],a,_=>rfl
  | (i,g)::j,a,b=>by
    simp[qw]at b;cases e:hI k g with
    |false=>grind
    |true=>
      simp[e]at b;simp[look];cases af i a with
      |true=>exact e
      |false=>exact vc b
section
variable {r:ai P}
def me{e:Type}(w:ai P)(v:Nat)(k:fq)(u:p ig)(t:e->Prop)(s:e->bH)(o:e->p an)(r:e->Nat)(n:Nat)(x:e):fq:=λl d i=>match l with
  |.normal=>∃j,t j/\r j<r x/\ix d (s j)/\qw n (s j)=f/\∃a b,i=a++b/\c a=n/\(ki n a=f/\jO b=f)/\q4 a (o j)
  |l=>g w v k u l d i
def g.aN{J:Type}(k)(B:J->Prop)(i:J->bH)(b7:J->p an)(Y:J->Nat)(l){dq}(au:iO F (i l)=h ab)(az:U ab)(aH:jk n (b7 l)=h dq)(aM:U dq)(aE:c n=k)(av:B l)(round:∀l,B l->g r D (me r D be ar B i b7 Y k l) [.code s] .normal (i l) (b7 l)):g r D be (.code (.loop s)::ar) .normal F n:=by
  intro ai x aA v j W S K d T;have w:=jN aH aM;obtain⟨aN,N,_⟩:=w ai v;refine w7 (λag e b=>∃X,B X/\bV D (b7 X) b (i X) e/\bb (b7 X) b/\dc n ai (b7 X) b/\Y X=ag) ?_ ?_ ⟨l,av,(aA.le (eC au az)).al w v,aN,N.tooU v,a⟩
  · rintro k e b ⟨X,Q,O,C,I,aj⟩
    exact N'
  rintro ag e b ⟨X,Q,O,C,I,rfl⟩ V;refine round X Q b e O C j (.inLoop s::W) S K d ?_;intro aj aO ao A R ah G u o;cases aj with
  |normal=>
    obtain⟨ak,ax,aG,aF,aP,t,Z,rfl,ae,⟨H,aq⟩,aJ⟩:=ah;have aa:=u.drop M;obtain⟨aL,ad,aI⟩:=aJ _ aa;have z:=G.le aF;have aB:eT A (A.cut (c t)):=⟨rfl,λ_ _ _ aC=>aC,λ_ _ _=>rfl,u.mem,λj d=>d.imp id λ⟨L,aw,d⟩=>⟨L,hc aw,d⟩⟩
    refine .aV aB (V R (A.cut (c t)) (Y ak) aG ⟨ak,ax,⟨z.size,z.defers.imp λ_ cS=>(cS.drop aq).mono ad.ext,λaK=>aI _ _ ((z.aH aK).drop (vc M))⟩,aL,?_,a⟩);exact((I.trans o).drop y).trans (ad.tooU aa)
  |_=>exact kG.cons (λ_ _=>rfl) E (T _ _ _ _ _ ah G u (I.trans o))
def g.h7{d:Type}{o:d->Prop}{a:d->bH}{b:d->p an}{i:d->Nat}{l}{e}(X){dq}(u:iO F (a X)=h ab)(y:U ab)(s:qw k (a X)=f)(x:vu k n=f)(j:jk (n.take k) (b X)=h dq)(w:U dq)(v:ki k (n.take k)=f)(z:o X)(t:i X<i l):
    g r D (me r D be e o a b i k l) [] .normal F n:=
  ⟨X,z,t,eC u y,s,n.take k,n.drop k,(FV k n).symm,by grind[Nat.le_of_ble_eq_true,yF],⟨v,(yF x).2⟩,jN j w⟩
def g.aB{e:Type}{k}{i:e->Prop}{a:e->bH}{d:e->p an}{x:e->Nat}{l}{u}(X){ab dq}(b:(iO F (a X),qw k (a X),vu k n,jk (n.take k) (d X),ki k (n.take k))=(h ab,f,f,h dq,f))(s:U ab)(t:U dq)(o:i X)(j:x X<x l):
    g r D (me r D be u i a d x k l) [] .normal F n:=by simp[lD]at b;exact g.h7 X b.1 s b.2.1 b.2.2.1 b.2.2.2.1 t b.2.2.2.2 o j
def g.aD{bq:Type}{cD:bq->Prop}{hr:bq->bH}{b7:bq->p an}{j:bq->Nat}{l}{id}{s x I}(i:g r D be I .normal F n)(cS:iK id s=q:=by exact rfl)(dp:iK id x=h I:=by exact rfl):
    g r D (me r D be x cD hr b7 j k l) (.code (.exit id)::s) .normal F n:=
  bY.mono (g.bt (O:=λdE ao=>me r D be x cD hr b7 j k l .normal dE ao) cS dp i) λaj dE ao bc=>by
    have key:∀ar aj,g r D (λaj dE ao=>match aj with
        |.normal=>me r D be x cD hr b7 j k l .normal dE ao
        |aj=>g r D be x aj dE ao) ar aj dE ao->g r D (me r D be x cD hr b7 j k l) ar aj dE ao:=by
      have aj:(λaj dE ao=>match aj with
        |.normal=>me r D be x cD hr b7 j k l .normal dE ao
        |aj=>g r D be x aj dE ao)=me r D be x cD hr b7 j k l:=by funext aj dE ao;cases aj<;>rfl
      grind
    exact key _ _ bc
def g.aX{a:Type}{e:a->Prop}{b:a->bH}{d:a->p an}{o:a->Nat}{l}{i j}(s:be .ret F n):g r D (me r D be j e b d o k l) (.code .ret::i) .normal F n:=
  g.ret (g.dK (be:=be) s)
theorem bV.freeze(o d){ah}{gB}(ak:look F o=aG d 0)(O:c6 d n=h (.cells W ah))(aa:h0 ah=h gB){x}(A:bV D n b F x)(g:bb n b):∃j:a5,j.a=b.a/\bV D (n.set d .x) j ((o,ax (.O gB))::F) x/\bb (n.set d .x) j/\cN n b (n.set d .x) j:=by
  have aE:=ei O;have ae:d<c n:=(cO.1 aE).1;have Y:=A.aH o;rw[ak]at Y;obtain⟨_,L,s,R,T,ai⟩:=Y;obtain⟨v,B,t,J,z,G⟩:=g.box d _ L aE R;subst t;simp at T;subst T;let j:a5:={b with u:=λX u=>if X=v then B[u]? else b.u X u}
  have r:cN n b (n.set d .x) j:=by
    refine⟨bC _,λ_ _ _=>rfl,?_,?_,λL ab s k=>.inr ⟨L,ab,k⟩,?_,a,a,a,a⟩
    · grind
    · intro s k Q u
      have ag:s≠v:=λaj=>Q _ (b8 R) zY;grind
    · intro p E l e i
      by_cases aj:d=p
      · subst aj
        rw[aE]at e;cases e;exact⟨.x,l,by grind,i,a⟩
      · exact⟨E,l,by grind,i,.refl _ _⟩
  refine⟨j,a,⟨A.size,A.defers.imp λ_ t=>t.mono r.ext,λZ=>?_⟩,⟨?_,by simp[g.len,j],?_,g.a3,g.lt,g.own⟩,r⟩
  · simp only[look]
    cases k:af o Z with
    |false=>exact(A.aH Z).mono r.ext g.len
    |true=>
      have aj:=di k;subst aj;rw[ai];have V:=rr aa z;refine Rd.O v 0 (λw=>(B[w]?).getD K) ?_ ?_
      · intro w I N
        obtain⟨C,U,_⟩:=V.get (w:=w) (x:=.c I) M;grind
      · intro w I N
        obtain⟨C,U,S⟩:=V.get (w:=w) (x:=.c I) M;simp[U,im];exact Rd.mono r.mem S
  · intro s u C ad
    by_cases aj:s=v
    · subst aj
      have y:B[u]?=h C:=M;show b.a.cell? _=_;simp[aN,J,y]
    · exact g.mem s u C M
  · intro p E l e i
    by_cases aj:d=p
    · subst aj
      rw[ij ae]at e;cases e;trivial
    · rw[kA aj]at e
      refine(g.box p E l e i).cd r.ext g.len λs k=>⟨a,λu=>?_⟩
      have ag:s≠v:=λan=>aj (g.a3 d p _ l R i s M k);grind
theorem g.freeze(o d){W}{ah}{gB}(i:look F o=aG d 0)(a:c6 d n=h (.cells W ah))(e:h0 ah=h gB)(b:g r D be (.code s::ar) .normal ((o,ax (.O gB))::F) (c_.cq d .x n)):g r D be (.code s::ar) .normal F n:=by grind[mL,g.aV,bV.freeze]
def g.aq{br}{l}(b:aT r D all t F n l ao)(a:fa D t.dst=f)(d:g r D be (.ae all br::ar) .normal (fS t.dst l F) ao):g r D be (.ae all (t::br)::ar) .normal F n:=
  e9.dg b (k9 a) d
end
structure Aa(I:TypeDesc)(T:Array MapEntry)(i:Z)(x:Option (Nat×Z)):Prop where
 key:MapKept.IsKey I i
 cX:Instr.findNow I i T.toList 0=h x
 db:x=q->∀aj∈T.toList,aj.key≠i
 gH:∀w aa,x=h (w,aa)->∃aj,T[w]?=h aj/\aj.key=i/\aj.val=aa
def Jf{I}{T}{i}(a:MapKept.IsKey I i)(e:∀b∈T.toList,MapKept.IsKey I b.key):∃d,Aa I T i d:=by
 rcases MapKept.findNow_spec a T.toList 0 e with⟨j,C⟩|⟨w,b,j,C,A⟩
 .exact⟨q,a,j,λ_=>C,by simp⟩
 refine⟨_,a,j,by simp,λk l g=>?_⟩;grind
section
variable {Q:au}{s ae:av}{I:TypeDesc}{a':Nat}{T:Array MapEntry}{clock:Nat}{i:Z}{ok:Bool}
def LH(a:P.underlying s=h I):(underlying s).run P Q=.ok I Q:=by simp[underlying,a]
def xV(b:P.underlying s=h I)(d:MapKept.IsKey I i)(j)(a):(Instr.checkKey j 10000 s i).events P Q a=a:=by show(Instr.checkKey j (9999+1) s i).events P Q a=a;unfold Instr.checkKey;simp[aH,LH b,aJ,events_underlying];cases I<;>cases i<;>first|exact d.elim|simp
def xY{d}{e}(b:P.underlying s=h I)(g:Instr.findNow I i d 0=h e)(a):(Instr.findKey s i d).events P Q a=a:=by simp[Instr.findKey,LH b,g]
def xZ(b:Q.heap[a']?=h (.map T clock))(a):(getObj a').events P Q a=a.push ⟨.obj a',m,m⟩:=by simp only[getObj,Sem.events,Sem.runT,b];rfl
def IN(d:Q.heap[a']?=h (.map T clock)){dI}{b}(a):(setObj a' (.map dI b)).events P Q a=a.push ⟨.obj a',f,m⟩:=by simp[setObj,Sem.events,Sem.runT,d];rfl
def LC(a:P.underlying s=h I)(b:MapKept.IsKey I i)(j):(Instr.checkKey j 10000 s i).run P Q=.ok () Q:=MapKept.run_checkKey a b j 9999
def J6(t:P.underlying o=h (.map s ae))(b:P.underlying s=h I)(e:Q.heap[a']?=h (.map T clock)){g}(d:Aa I T i g){cL}(n:g=q->(zeroValue ae).run P Q=.ok cL Q):
  (Instr.lookup o (.map (h a')) i ok).run P Q=.ok (match g with
   |some (_,p)=>if ok=f then .tuple #[p,.bool f]else p
   |none=>if ok=f then .tuple #[cL,.bool m]else cL) Q/\(Instr.lookup o (.map (h a')) i ok).events P Q #[]=#[⟨.obj a',m,m⟩]:=by
 have k:(underlying o).run P Q=.ok (.map s ae) Q:=by simp[underlying,t]
 have l:=LC (Q:=Q) b d.key T.isEmpty;have j:(Instr.findKey s i T.toList).run P Q=.ok g Q:=MapKept.run_findKey b d.cX;cases g with
 |some r=>
  constructor
  .simp only[Instr.lookup,cI,k,c0,MapKept.run_getObj_map e,d6,l,j]
  simp only[Instr.lookup,aH,k,aJ,MapKept.run_getObj_map e,d6,Sem.events_pure,l,j,events_underlying,xZ e,xV b d.key,xY b d.cX];rfl
 |none=>
  constructor
  .simp only[Instr.lookup,cI,k,c0,MapKept.run_getObj_map e,d6,l,j,n a]
  simp only[Instr.lookup,aH,k,aJ,MapKept.run_getObj_map e,d6,Sem.events_pure,l,j,events_underlying,xZ e,xV b d.key,xY b d.cX,n a,events_zeroValue];rfl
def MY(y:P.underlying o=h (.map s ae))(a:P.underlying s=h I)(d:Q.heap[a']?=h (.map T clock)){g}{l}(e:Aa I T i g):
  (Instr.mapUpdate o (.map (h a')) i l).run P Q=.ok () {Q with heap:=Q.heap.setIfInBounds a' (match g with
   |some (p,_)=>.map (T.modify p λt=>{key:=i,val:=l,born:=t.born}) clock
   |none=>.map (T.push {key:=i,val:=l,born:=clock}) (clock+1))} /\
  (Instr.mapUpdate o (.map (h a')) i l).events P Q #[]=#[⟨.obj a',m,m⟩,⟨.obj a',f,m⟩]:=by
 have k:(underlying o).run P Q=.ok (.map s ae) Q:=by simp[underlying,y]
 have n:=LC (Q:=Q) a e.key m;have j:(Instr.findKey s i T.toList).run P Q=.ok g Q:=MapKept.run_findKey a e.cX;cases g with
 |some r=>
  obtain⟨p,z⟩:=r;obtain⟨t,v,w,_⟩:=e.gH p z rfl;have u:(Instr.keyThatStays i i).run P Q=.ok i Q:=MapKept.run_keyThatStays e.key;have x:∀b,(Instr.keyThatStays i i).events P Q b=b:=λb=>by simp[Instr.keyThatStays,MapKept.sameBits_self e.key]
  constructor
  .simp only[Instr.mapUpdate,cI,k,c0,MapKept.run_getObj_map d,n,j,v,lC,im,w,u,MapKept.run_setObj_map _ d]
  simp only[Instr.mapUpdate,aH,k,aJ,MapKept.run_getObj_map d,n,j,v,lC,im,w,u,x,events_underlying,xZ d,IN d,xV a e.key,xY a e.cX];rfl
 |none=>
  constructor
  .simp only[Instr.mapUpdate,cI,k,c0,MapKept.run_getObj_map d,n,j,MapKept.run_setObj_map _ d]
  simp only[Instr.mapUpdate,aH,k,aJ,MapKept.run_getObj_map d,n,j,events_underlying,xZ d,IN d,xV a e.key,xY a e.cX];rfl
end
def bb.b_(j:bb n b){j2:Z->(Nat->Option Obj)->Prop}{L cm}(aE:n[d]?=h (.J H))(A:b.m[d]?=h L)(G:cm.v=L.v)(R:b.a.heap.size<=bh.heap.size)(K:∀e,e<b.a.heap.size->e∉L.al->bh.heap[e]?=b.a.heap[e]?)(D:∀e∈cm.al,e∈L.al∨(b.a.heap.size<=e/\e<bh.heap.size))(x:∃p,j2 cm.v p/\(∀e u,p e=h u->bh.heap[e]?=h u)/\(∀e,e∈cm.al↔(p e).isSome=f))(Q:bh.os=b.a.os)(Y:bh.tape=b.a.tape)(N:bh.output=b.a.output):
  bb (n.set d (.J j2)) ⟨b.m.set d cm,b.u,bh,b.own⟩/\cN n b (n.set d (.J j2)) ⟨b.m.set d cm,b.u,bh,b.own⟩:=by
 have bz:d<c n:=(cO.1 aE).1;have ag:d<c b.m:=M;obtain⟨aa,_,_,_,z⟩:=j.box d _ L aE A;have X:∀e∈cm.al,∀u,b.u e u=q:=by
  intro e E u;rcases D e E with o|⟨o,_⟩
  .grind
  cases s:b.u e u with
  |none=>rfl
  |some U=>have:=j.block s;omega
 have B:cN n b (n.set d (.J j2)) ⟨b.m.set d cm,b.u,bh,b.own⟩:=by
  refine⟨R,M,λ_ _ _ j=>j,λ_ _ _ _=>rfl,M,?_,Q,Y,N,a⟩;intro g I k v y;by_cases C:d=g
  .subst C;rw[aE]at v;cases v;rw[A]at y;cases y;exact⟨.J j2,cm,by grind,by grind,G⟩
  exact⟨I,k,by grind,by grind,.refl _ _⟩
 have J:∀g k,(b.m.set d cm)[g]?=h k->(g=d/\k=cm)∨(d≠g/\b.m[g]?=h k):=M;refine⟨⟨?_,by simp[j.len],?_,?_,?_,?_⟩,B⟩
 .intro e u U s;have ah:=j.block s;have ab:e∉L.al:=λt=>by grind
  rw[<-j.mem e u U s];simp only[aN];grind
 .intro g I k v y;rcases J g k y with⟨rfl,rfl⟩|⟨C,l⟩
  .rw[ij bz]at v;cases v;obtain⟨p,k1,V,O⟩:=x;exact⟨p,k1,V,O,X⟩
  rw[kA C]at v;refine(j.box g I k v l).cd B.ext j.len λe E=>⟨K e (j.lt k (b8 l) e E) λt=>C (j.a3 d g L k A l e t E),λ_=>rfl⟩
 .intro W F r k o l e i w;rcases J W r o with⟨rfl,rfl⟩|⟨dK,T⟩<;>rcases J F k l with⟨rfl,rfl⟩|⟨eF,S⟩
  .rfl
  .rcases D e i with t|t
   .exact j.a3 _ _ L k A S e t w
   have:=j.lt k (b8 S) e w;omega
  .rcases D e w with t|t
   .exact j.a3 _ _ r L T A e i t
   have:=j.lt r (b8 T) e i;omega
  exact j.a3 _ _ r k T S e i w
 .intro k y e w;rcases Aq y with o|o
  .exact ey (j.lt k o e w) R
  subst o;rcases D e w with l|l
  .exact ey (j.lt L (b8 A) e l) R
  grind
 intro e x;obtain⟨ae,ad⟩:=j.own e x;grind
section
variable {j2:Z->(Nat->Option Obj)->Prop}
end
def bT.di{fn}{d}{res}(aO)(e:pv fn.results.toList aO F res=h ab)(l:U ab)(k:dv aO n=h ao)(j:l2 ao=f)(i:e6 aO=f)(g:∀b,b<d->aO[b]?=h b):
  bT fn d res ao .normal F n:=by refine⟨.inr a,aO,?_⟩;unfold pv at e;grind
def g.iz{b:ai P}{i}{aL}{res}(s:Y b i cR dd res aL)(aO)(k:t.guard=q)(e:t.op=.call {callee:=.value cP,args:=ag,argTypes:=dn})(v:gN (bF F cP)=h (i,cap))(j:k5 (ag.toList.map (bF F)++e0 cap)=gq aO cR)(o:g4 (c aO) cR=f)(p:dv aO n=h dd)(u:eo dd=f)(l:eo aL=f)(d:e6 aO=f)(r:ay (c aO) (c aL)=f)(x:fa D t.dst=f)(w:g b D be (.ae all br::ar) .normal (fS t.dst (e7 (aO++gJ (c n) (c aL-c aO)) res) F) (c_ aO aL n)):g b D be (.ae all (t::br)::ar) .normal F n:=
 e9.call (λ_ _ _ _=>iV k) e v aO s j o p u l d (e' r) t.dst a (k9 x) w
def g.dj{d:ai P}{j}(u:bk d j cR dd res aL)(aO)(l:t.guard=q)(i:t.op=.call {callee:=.value cP,args:=ag,argTypes:=dn})(x:gN (bF F cP)=h (j,cap))(k:k5 (ag.toList.map (bF F)++e0 cap)=gq aO cR)(p:g4 (c aO) cR=f)(r:dv aO n=h dd)(v:eo dd=f)(o:∀b,eo (aL b)=f)(e:e6 aO=f)(s:∀b,ay (c aO) (c (aL b))=f)(y:fa D t.dst=f)(w:∀b,g d D be (.ae all br::ar) .normal (fS t.dst (e7 (aO++gJ (c n) (c (aL b)-c aO)) (res b)) F) (c_ aO (aL b) n)):g d D be (.ae all (t::br)::ar) .normal F n:=
 e9.gR (λ_ _ _ _=>iV l) i x aO u k p r v o e (λb=>e' (s b)) t.dst a (k9 y) w
def g.aF{P:aI}{b:ai P}{D}{be}{ar}{F}{n}{all br}{t}{cP}{ag}{dn}{a}{cap}{cR}{dd aL}{res}(w:Y b a cR dd res aL)(aO)(d:(t.guard,t.op,gN (bF F cP),k5 (ag.toList.map (bF F)++e0 cap),g4 (c aO) cR,dv aO n,eo dd,eo aL,e6 aO,ay (c aO) (c aL),fa D t.dst)=(q,.call {callee:=.value cP,args:=ag,argTypes:=dn},h (a,cap),gq aO cR,f,h dd,f,f,f,f,f))(s:g b D be (.ae all br::ar) .normal (fS t.dst (e7 (aO++gJ (c n) (c aL-c aO)) res) F) (c_ aO aL n)):g b D be (.ae all (t::br)::ar) .normal F n:=by simp only[lD]at d;obtain⟨e,i,j,k,l,a,o,p,r,u,v⟩:=d;exact g.iz w aO e i j k l a o p r u v s
def g.a9{P:aI}{e:Type}{j:ai P}{D}{be}{ar}{F}{n}{all br}{t}{cP}{ag}{dn}{i}{cap}{cR}{dd}{a:e->p an}{d:e->z}(x:bk j i cR dd d a)(aO)(l:(t.guard,t.op,gN (bF F cP),k5 (ag.toList.map (bF F)++e0 cap),g4 (c aO) cR,dv aO n,eo dd,e6 aO,fa D t.dst)=(q,.call {callee:=.value cP,args:=ag,argTypes:=dn},h (i,cap),gq aO cR,f,h dd,f,f,f))(k:∀b,(eo (a b),ay (c aO) (c (a b)))=(f,f))(y:∀b,g j D be (.ae all br::ar) .normal (fS t.dst (e7 (aO++gJ (c n) (c (a b)-c aO)) (d b)) F) (c_ aO (a b) n)):g j D be (.ae all (t::br)::ar) .normal F n:=by simp only[lD]at l k;obtain⟨o,r,s,u,v,i,w,b,A⟩:=l;exact g.dj x aO o r s u v i w (λb=>(k b).1) b (λb=>(k b).2) A y
def lX:p z->p z->Option (p Prop)
 |[],[]=>h []
 |d::a,e::b=>match kk d e with
  |some g=>match lX a b with
   |some i=>h (gA g i)
   |none=>q
  |none=>q
 |_,_=>q
def s'{n}{b}:∀{B:p Z}{e g:p z}{d:p Prop},lX e g=h d->U d->b4 n b B e->b4 n b B g
 |[],[],[],_,_,_,_=>trivial
 |_::_,[],_,_,_,_,a=>a.elim
 |[],_::_,_,_,_,_,a=>a.elim
 |[],[],_::_,_,a,_,_=>by simp[lX]at a
 |_::_,_::_,[],_,a,_,_=>by simp[lX]at a
 |w::B,s::i,t::j,d,a,k,r=>by
  simp[lX]at a;cases l:kk s t with
  |none=>grind
  |some u=>
   cases o:lX i j with
   |none=>grind
   |some v=>
    simp[l,o]at a;subst a;rw[U.Y]at k;exact⟨pg l k.1 r.1,s' o k.2 r.2⟩
def g.bQ{d:ai P}{j}(x:bk d j cR dd res aL)(aO)(o:t.guard=q)(i:t.op=.call {callee:=.value cP,args:=ag,argTypes:=dn})(y:gN (bF F cP)=h (j,cap))(k:lX (ag.toList.map (bF F)++e0 cap) (gq aO cR)=h ab)(l:U ab)(r:g4 (c aO) cR=f)(s:dv aO n=h dd)(z:eo dd=f)(p:∀b,eo (aL b)=f)(e:e6 aO=f)(v:∀b,ay (c aO) (c (aL b))=f)(A:fa D t.dst=f)(w:∀b,g d D be (.ae all br::ar) .normal (fS t.dst (e7 (aO++gJ (c n) (c (aL b)-c aO)) (res b)) F) (c_ aO (aL b) n)):g d D be (.ae all (t::br)::ar) .normal F n:=
 e9.eU (λ_ _ _ _=>iV o) i y aO x (λC B u=>s' k l u) r s z p e (λb=>e' (v b)) t.dst a (k9 A) w
def abz{b:Act}{a}(d:a<b.tmps.size):(b.put (h a) aa).tmps.getD a K=aa:=by simp[Act.put,hk,uv d]
def ds.of_eq{T dI}(a:T=dI)(d:ds b dI):ds b T:=M
def x0{A}{a:Sem Next}(e:ds b (A.events P b.a #[]))(d:a=(do pure (.value (<-A)))):ds b (a.events P b.a #[]):=by grind[jh]
def Ig{a}{fn}{aj:Array Z->Sem Z}(d:P.funcs[a]?=h fn)(l:(fn.name== "runtime.NumGoroutine")=m)(u:fn.body.isNone=f)(k:Extern.findNext fn=q)(e:Extern.find fn=h aj)(args)(j:dB P (aj args))(b)(T):
  (callFunc a args).events P b T=T.push ⟨.mark (.extern a),m,f⟩:=by have i:fn.name≠ "runtime.NumGoroutine":=M;have g:fn.body=q:=ww;simp[callFunc,d,i,g,k,e];rw[j b]
section
variable {r:ai P}
def ev(P:aI)(o:Nat)(l:ap)(n:bH)(g:p an)(r:ι->z)(b:ι->p an):Prop:=
 ∀d i,bV o g d n i->bb g d->∃e j a k,(ac i.eval l).run P d.a=.ok j a.a/\(j=.value k∨(j=.skip/\k=K))/\bx (b e) a k (r e)/\bb (b e) a/\cN g d (b e) a/\ds d ((ac i.eval l).events P d.a #[])
def g.cF(K:ι->z)(b:ι->p an)(O:t.guard=q)(M:fa D t.dst=f)(T:ev P D t F n K b)(U:∀k,g r D be (.ae all br::ar) .normal (fS t.dst (K k) F) (b k)):g r D be (.ae all (t::br)::ar) .normal F n:=by
 intro ai Q S j R B u N idx i a A;cases idx with
 |nil=>exact a.elim
 |cons ah idx=>
 refine ri i a.1 (iV O) λae v=>?_;have e:=j.rely v;have x:=S.rely v j;obtain⟨k,ad,l,ab,y,d,ag,I,J,aa⟩:=T ae Q x e;have w:=J.tooU e;refine⟨ad,l,ab,y,d,⟨⟨n,b k,e,I,J⟩,aa⟩,?_⟩;refine U k l _ ?_ I R B u N idx i a.2 λV o C s X W d E=>A V o C s X W d ((v.aR.trans w).trans E);cases Y:t.dst with
 |none=>exact x.mono w e.len
 |some Z=>exact(x.mono w e.len).put (k9 M Z Y) ag
def g.aP{l}(d:a0 P t (bF F) n l ao)(a:t.guard=q)(b:fa D t.dst=f)(e:g r D be (.ae all br::ar) .normal (fS t.dst l F) ao):g r D be (.ae all (t::br)::ar) .normal F n:=
 g.aq (.a1 (λ_ _ _ _=>iV a) d) b e
def oH(a:p ap)(d:bH)(g:ap):Bool:=match g.guard with
 |none=>f
 |some (e,b)=>match yi d a e with
  |some (h f)=>b
  |some (h m)=>!b
  |_=>m
def jZ(a:oH all F t=f):∀d i b,bV D d i F b->aV t (yielded all.toArray b.tmps)=f:=by
 intro d i b g;unfold oH at a;split at a
 .grind [iV]
 rename_i k j e;split at a
 .rename_i s;simp only[aV,e,yj s g,a];rfl
 .rename_i s;simp only[aV,e,yj s g];grind
 grind
def g.iA{e}{aL}{res}(s:Y r e cR dd res aL)(aO)(j:oH all F t=f)(d:t.op=.call {callee:=.value cP,args:=ag,argTypes:=dn})(v:gN (bF F cP)=h (e,cap))(i:k5 (ag.toList.map (bF F)++e0 cap)=gq aO cR)(l:g4 (c aO) cR=f)(o:dv aO n=h dd)(u:eo dd=f)(k:eo aL=f)(b:e6 aO=f)(p:ay (c aO) (c aL)=f)(x:fa D t.dst=f)(w:g r D be (.ae all br::ar) .normal (fS t.dst (e7 (aO++gJ (c n) (c aL-c aO)) res) F) (c_ aO aL n)):g r D be (.ae all (t::br)::ar) .normal F n:=
 e9.call (jZ j) d v aO s i l o u k b (e' p) t.dst a (k9 x) w
end
section
variable {r:ai P}
def g.fV{dE}(d:g r D be (.code s::ar) .normal dE ao){dq}(a:iO F dE=h ab)(x:U ab)(b:jk n ao=h dq)(j:U dq):g r D be (.code s::ar) .normal F n:=
 g.ba ao b j (bY.le d (eC a x))
def B2:p ig->p ig
 |.blk _::ar=>B2 ar
 |ar=>ar
def g.fy:∀{ar:p ig},g r D be (B2 ar) .normal F n->g r D be ar .normal F n
 |[],a=>a
 |.blk _::ar,a=>g.fy (ar:=ar) a
 |.code _::_,a=>a
 |.ae _ _::_,a=>a
def g.cl{u S2:Type}{iE}(id){v e}(o:iK id ar=h v)(J:Go.AM.B2 v=.code iE::e)(B:S2->Prop)(dy:S2->bH)(x:S2->p an)(k)(t:u->Prop)(b:u->bH)(d:u->p an)(C:u->Nat)(l){a}(I:iO F (b l)=h ab)(j:U ab)(E:jk n (d l)=h a)(y:U a)(A:c n=k)(w:t l)(round:(∀i {F:bH} {n:p an} {ab a:p Prop},B i->iO F (dy i)=h ab->U ab->jk n (x i)=h a->U a->g r D be v .normal F n) ->
   ∀l,t l->g r D (me r D be ar t b d C k l) [.code s] .normal (b l) (d l))(after:∀i,B i->g r D be (.code iE::e) .normal (dy i) (x i)):g r D be (.code (.loop s)::ar) .normal F n:=
 g.aN k t b d C l I j E y A w (round λi _ _ _ _ K z j o y=>g.fy (by rw[J];exact(after i K).fV z j o y))
end
section
variable {r:ai P}
def iy(n:ai P)(s:Nat)(k:p z)(j:p an)(i:Bool)(e:ι->p an):Prop:=
 ∀a (B:p Z) (d:Nat),b4 j a B k->bb j a->(∃L,a.m[s]?=h L/\L.v=.func (.yield d) #[] #[]) ->
  ∃fn tmps assign body,(Instr.yield d B.toArray).run P a.a=.ok (.round d fn tmps assign body) a.a/\(Instr.yield d B.toArray).events P a.a #[]=#[⟨.obj d,m,m⟩] /\
  ∀(l:ak->a5->Prop) o g,(∀r b,bb (e r) b->dc j a (e r) b->cb n l (G (o.finish (.bool i)) g) b) ->
   cb n l (G (Frame.round d fn tmps assign body .normal) (o::g)) a
def yY{Q}{b}(g:Q.heap[d]?=h (.loop b)):(Instr.getLoop d).run P Q=.ok b Q/\∀a,(Instr.getLoop d).events P Q a=a.push ⟨.obj d,m,m⟩:=by
 have e:(getObj d).run P Q=.ok (.loop b) Q:=by simp[getObj,Sem.run,g]
 have i:∀a,(getObj d).events P Q a=a.push ⟨.obj d,m,m⟩:=λa=>by simp only[getObj,Sem.events,Sem.runT,g];rfl
 constructor
 .simp[Instr.getLoop,e]
 intro a;simp[Instr.getLoop,e,i]
def DO{Q}{e fT}(b:Q.heap[d]?=h (.loop e)):(setObj d (.loop fT)).run P Q=.ok () {Q with heap:=Q.heap.setIfInBounds d (.loop fT)}/\∀a,(setObj d (.loop fT)).events P Q a=a.push ⟨.obj d,f,m⟩:=by
 constructor
 .simp only[setObj,Sem.run,b]
 intro a;simp[setObj,Sem.events,Sem.runT,b];rfl
def ab0{Q}{a}{args}(j:Q.heap[d]?=h (.loop a))(b:args.size=a.params.size):
  (Instr.yield d args).run P Q=.ok (.round d a.fn ((a.params.zip args).foldl (λtmps (k,g)=>tmps.setIfInBounds k g) a.tmps) a.assign a.body) Q/\(Instr.yield d args).events P Q #[]=#[⟨.obj d,m,m⟩]:=by
 obtain⟨e,i⟩:=yY (P:=P) j;constructor
 .simp[Instr.yield,e,b]
 simp[Instr.yield,e,i,b]
def abS{Q}{a}(i:Q.heap[d]?=h (.loop a))(b:a.state=.ready):
  (Instr.beginRound d).run P Q=.ok () {Q with heap:=Q.heap.setIfInBounds d (.loop {a with state:=.busy})}/\(Instr.beginRound d).events P Q #[]=#[⟨.obj d,m,m⟩,⟨.obj d,f,m⟩]:=by
 obtain⟨e,j⟩:=yY (P:=P) i;obtain⟨g,k⟩:=DO (P:=P) (fT:={a with state:=.busy}) i;constructor
 .simp[Instr.beginRound,e,g,b]
 simp[Instr.beginRound,e,j,g,k,b]
def abV{Q}{a}(g:Q.heap[d]?=h (.loop a))(w):
  (Instr.endRound d w).run P Q=.ok (.bool w.isNone) {Q with heap:=Q.heap.setIfInBounds d (.loop {a with state:=if w.isNone then .ready else .done,pending:=w})}/\(Instr.endRound d w).events P Q #[]=#[⟨.obj d,m,m⟩,⟨.obj d,f,m⟩]:=by
 obtain⟨b,i⟩:=yY (P:=P) g;obtain⟨e,j⟩:=DO (P:=P) (fT:={a with state:=if w.isNone then .ready else .done,pending:=w}) g;constructor
 .simp only[Instr.endRound,cI,b,e,c0,d6]
 simp only[Instr.endRound,aH,b,i,e,j,aJ,Sem.events_pure];rfl
def abU{Q}{a}(g:Q.heap[d]?=h (.loop a))(b:a.state≠.busy):
  (Instr.endLoop d).run P Q=.ok a.pending {Q with heap:=Q.heap.setIfInBounds d (.loop {a with state:=.exhausted})}/\(Instr.endLoop d).events P Q #[]=#[⟨.obj d,m,m⟩,⟨.obj d,f,m⟩]:=by
 obtain⟨e,i⟩:=yY (P:=P) g;obtain⟨k,j⟩:=DO (P:=P) (fT:={a with state:=.exhausted}) g;have l:(a.state==.busy)=m:=by cases n:a.state<;>simp_all
 constructor
 .simp[Instr.endLoop,e,k,b]
 simp[Instr.endLoop,e,i,j,b]
section steps
variable {j:aK}{x:Act}{i:p Item}{Q:au}{eN:Bool}
def ab1(cv:t.op=.call {callee:=.value cP,args:=ag,argTypes:=dn})(s:x.eval cP=.func (.yield d) #[] #[]):
  (ac x.eval t).run P Q=(Instr.yield d (ag.toList.map x.eval).toArray).run P Q/\(ac x.eval t).events P Q #[]=(Instr.yield d (ag.toList.map x.eval).toArray).events P Q #[]:=by
 have I:ag.map x.eval=(ag.toList.map x.eval).toArray:=M;constructor
 .exact QQ
 exact QQ
def acb{br}{fn}{tmps}{assign body}(a:aC[e]?=h t)(g:aV t (yielded aC x.tmps)=f)(l:j.kind≠.early)(k:(ac x.eval t).run P Q=.ok (.round d fn tmps assign body) bh):
  aq P eN (G (j.M x (.inRegion aC (e::br)::i)) ah) Q=.go (G (Frame.round d fn tmps assign body .normal) (j.M x (.inRegion aC (e::br)::i)::ah)) bh (Go.Conc.listed P j.fn x t Q):=by have b:(j.kind==CallKind.early)=m:=M;rw[y3 a g (λn o=>by grind[xP])];simp[stepG.apply,k,G,Frame.M,b,GStep.after,Go.Conc.listed]
def ab8{a}(l:j.roundOf=h d)(o:j.kind≠.early)(n:Q.heap[d]?=h (.loop a))(g:a.state=.ready):
  aq P eN (G (j.M x (.beginRound::i)) ah) Q=.go (G (j.M x i) ah) {Q with heap:=Q.heap.setIfInBounds d (.loop {a with state:=.busy})} (seen P j.fn #[⟨.obj d,m,m⟩,⟨.obj d,f,m⟩]):=by obtain⟨k,e⟩:=abS (P:=P) n g;have b:(j.kind==CallKind.early)=m:=M;simp[G,aq,stepG.exec,stepG.apply,Frame.M,l,b,k,e,GStep.after,Frame.finish]
def acc{b}{w}{a}{s}(C:j.roundOf=h d)(b1:j.kind=.normal)(e:Q.heap[d]?=h (.loop b))(g:(w=q/\a=[])∨(w=h .ret/\∃k1,a=.code .ret::k1)∨(∃id k1,w=h (.exit id)/\a=.code (.exit id)::k1/\exitTo id k1=q)):
  aq P eN (G (j.M x a) (s::ah)) Q=.go (G (s.finish (.bool w.isNone)) ah) {Q with heap:=Q.heap.setIfInBounds d (.loop {b with state:=if w.isNone then .ready else .done,pending:=w})} (seen P j.fn #[⟨.obj d,m,m⟩,⟨.obj d,f,m⟩]):=by
 obtain⟨I,ae⟩:=abV (P:=P) e w;rcases g with⟨rfl,rfl⟩|⟨rfl,k1,rfl⟩|⟨id,k1,rfl,rfl,A⟩
 .simp only[Option.isNone_none,dH]at I;exact OI
 .simp only[Option.isNone_some,dh,j6]at I;exact OI
 simp[Option.isNone_some,dh,j6]at I;simp[G,aq,stepG.exec,Frame.M,C,I,ae,GStep.after,doReturn,b1,A]
def ab9{a}(k:Q.heap[d]?=h (.loop a))(g:a.state≠.busy):
  aq P eN (G (j.M x (.endRangeFunc d::i)) ah) Q=.go (G (j.M x ((a.pending.map Item.code).toList++i)) ah) {Q with heap:=Q.heap.setIfInBounds d (.loop {a with state:=.exhausted})} (seen P j.fn #[⟨.obj d,m,m⟩,⟨.obj d,f,m⟩]):=by obtain⟨b,e⟩:=abU (P:=P) k g;simp[G,aq,stepG.exec,Frame.M,b,e,GStep.after]
def abW{fn}{tmps}{params}{assign body}:
  (Instr.enterLoop fn tmps params assign body q).run P Q=.ok (Q.heap.size+1,[{target:=.collected Q.heap.size,args:=#[]}]) {Q with heap:=(Q.heap.push (.deferred (h []))).push (.loop {state:=.ready,pending:=q,fn,tmps,params,assign,body,defers:=Q.heap.size})} /\
  (Instr.enterLoop fn tmps params assign body q).events P Q #[]=#[]:=by
 have d:∀b Q,(newObj b).run P Q=.ok Q.heap.size {Q with heap:=Q.heap.push b}:=λb Q=>by simp[newObj,Sem.run]
 have e:∀b Q a,(newObj b).events P Q a=a:=λb Q a=>by simp[newObj,Sem.events,Sem.runT]
 constructor
 .simp[Instr.enterLoop,d];rfl
 simp[Instr.enterLoop,d,e]
def aca{b}{ab}{assign body}{a}{fn}{s}(w:j.roundOf=q)(p:j.kind≠.early)(r:P.funcs[a]?=h fn)(z:(fn.name== "runtime.NumGoroutine")=m)(y:fn.body.isNone=m)(t:x.eval b=.func (.func a) #[] s.toArray):
  aq P eN (G (j.M x (.code (.rangeFunc b ab assign body)::i)) ah) Q =
   .go (G (Frame.enter P a (Value.func (.yield (Q.heap.size+1)) #[] #[]::s).toArray .normal) (j.M {x with defers:={target:=.collected Q.heap.size,args:=#[]}::x.defers} (.inRangeFunc (Q.heap.size+1)::i)::ah))
    {Q with heap:=(Q.heap.push (.deferred (h []))).push (.loop {state:=.ready,pending:=q,fn:=j.fn,tmps:=x.tmps,params:=ab,assign,body,defers:=Q.heap.size})} #[]:=by
 obtain⟨v,u⟩:=abW (P:=P) (Q:=Q) (fn:=j.fn) (tmps:=x.tmps) (params:=ab) (assign:=assign) (body:=body);have o:(j.kind==CallKind.early)=m:=M;have n:fn.name≠ "runtime.NumGoroutine":=M;have l:fn.body≠q:=M;have e:∀d k g,({fn:=j.fn,tmps:=x.tmps,todo:=k,defers:=d,mode:=g,kind:=j.kind,roundOf:=j.roundOf}:aK).eval b=.func (.func a) #[] s.toArray:=by intro d k g;rw[<-t];cases b<;>rfl
 simp[G,aq,stepG.exec,Frame.M,w]at e⊢;simp[v,u,GStep.after,stepG.apply,resolve,e,Deferred.ofValue,invoke,callFunc,r,n,l,o,seen];rfl
end steps
end
section
variable {r:ai P}
def bb.fJ(j:bb n b){g:Nat}{a}{l}(aE:n[g]?=h (.loop D a l))(k:∃L,b.m[g]?=h L/\L.v=.func (.yield d) #[] #[]):
  ∃tmps fn e,b.m[g]?=h ⟨.func (.yield d) #[] #[],[d]⟩/\b.a.heap[d]?=h (.loop {l with tmps:=tmps,fn:=fn,defers:=e})/\tmps.size=D/\(∀o,bx n b (tmps.getD o K) (look a o))/\(∀s,b.u d s=q):=by obtain⟨L,i,p⟩:=k;obtain⟨r,tmps,fn,e,x,u,w,t,v⟩:=j.box g _ L aE i;grind
def bb.gC(j:bb n b){k}{i}{v fT}{d'}(aE:n[k]?=h (.loop D i v)){tmps}{fn e}(x:b.m[k]?=h ⟨.func (.yield d) #[] #[],[d]⟩)(C:b.a.heap[d]?=h (.loop {v with tmps:=tmps,fn:=fn,defers:=e}))(N:tmps.size=D)(B:∀o,bx n b (tmps.getD o K) (look i o))(I:∀u,b.u d u=q)(w:d'=.x∨d'=.loop D i fT):
  bb (n.set k d') {b with a:={b.a with heap:=b.a.heap.setIfInBounds d (.loop {fT with tmps:=tmps,fn:=fn,defers:=e})}}/\cN n b (n.set k d') {b with a:={b.a with heap:=b.a.heap.setIfInBounds d (.loop {fT with tmps:=tmps,fn:=fn,defers:=e})}}:=by
 have S:d<b.a.heap.size:=j.lt _ (b8 x) d E;have s:∀g,g≠d->(b.a.heap.setIfInBounds d (.loop {fT with tmps:=tmps,fn:=fn,defers:=e}))[g]?=b.a.heap[g]?:=λg l=>by grind
 have R:b.m.set k ⟨.func (.yield d) #[] #[],[d]⟩=b.m:=mV;have Q:k<c n:=(cO.1 aE).1;have z:fD (.loop D i v) ⟨.func (.yield d) #[] #[],[d]⟩ d' ⟨.func (.yield d) #[] #[],[d]⟩:=by rcases w with rfl|rfl<;>rfl
 have p:fh n b (n.set k d') {b with a:={b.a with heap:=b.a.heap.setIfInBounds d (.loop {fT with tmps:=tmps,fn:=fn,defers:=e})}}:=by
  refine⟨λ_ _ _ r=>r,λF y L U A=>?_⟩;by_cases O:k=F
  .grind
  exact⟨y,L,by grind,A,.refl _ _⟩
 have:=j.b9 (cd:=b.u) (bh:={b.a with heap:=b.a.heap.setIfInBounds d (.loop {fT with tmps:=tmps,fn:=fn,defers:=e})}) (d':=d') (cm:=⟨.func (.yield d) #[] #[],[d]⟩) aE x z E (λg _ l=>s g M) (λ_ _ _ _=>rfl) (λ_ _ _ r=>r)
  (λg u J t=>by
   have T:g≠d:=M;rw[<-j.mem g u J t];simp[aN]
   grind) (λg l=>by grind) a a a (by
   rcases w with rfl|rfl
   .trivial
   .refine⟨d,tmps,fn,e,a,M,N,λo=>?_,I⟩
    .have:=(B o).mono p j.len
     grind)
 grind
def g.yield{d:ι->p an}{e}{bg}{res}(aM:iy r e bg n res d)(H:t.guard=q)(ak:fa D t.dst=f)(M:t.op=.call {callee:=.value cP,args:=ag,argTypes:=dn}){N0}{ih}{a'}(Z:n[e]?=h (.loop N0 ih a'))(ae:bF F cP=.q (.aq (.aQ e)))(aJ:ag.toList.map (bF F)=bg)(i:∀R,g r D be (.ae all br::ar) .normal (fS t.dst (ax (.bool res)) F) (d R)):g r D be (.ae all (t::br)::ar) .normal F n:=by
 intro aI x au u j w C Y idx s b K;cases idx with
 |nil=>exact b.elim
 |cons R idx=>
 refine .next a λo aG=>?_;have W:=r.bM aG;have l:=u.rely W;have T:=au.rely W u;have X:=eJ T cP;rw[ae]at X;obtain⟨_,L,V,O,_⟩:=(show cw _ o _ (.aQ e)from X)
 obtain⟨S,tmps,fn,aq,ah,av,aw,az,aA⟩:=l.box e _ L Z V;subst ah;have aB:b4 n o (ag.toList.map x.eval) bg:=by grind[m2,eJ]
 obtain⟨aH,aK,assign,body,ab,ao,ad⟩:=aM o (ag.toList.map x.eval) S aB l ⟨_,V,rfl⟩;obtain⟨G,ai⟩:=ab1 (P:=P) (Q:=o.a) (x:=x) M O;refine⟨_,o,_,acb b.1 (iV H) s (G.trans ab),⟨⟨n,n,l,l,.refl _ _⟩,ds.seen ?_⟩,ad Y _ _ λN y v k=>?_⟩
 .rw[ai,ao];exact .aq (mu (L:=⟨.func (.yield S) #[] #[],[S]⟩) (b8 V) E)
 have I:=qk (j:=j) (x:=x) (i:=w) all.toArray R idx (.bool res);rw[b.1]at I;simp[n0]at I;rw[I];refine i N y _ ?_ v j w C Y idx s b.2 λaC A U B aE aj J z=>K aC A U B aE aj J ((W.aR.trans k).trans z);cases aa:t.dst with
 |none=>exact T.mono k l.len
 |some aF=>exact(T.mono k l.len).put (k9 ak aF aa) (show bx (d N) y (.bool res) (ax (.bool res))from Rd.bool)
def rj:p Tmp->p z->bH->bH
 |g::d,e::b,a=>rj d b ((g,e)::a)
 |_,_,a=>a
def yP(b:Nat):p Tmp->Bool
 |[]=>f
 |d::a=>match ay (d+1) b with|true=>yP b a|false=>m
def Gk{D}{n}{b}:∀{e:p Tmp}{a:p z}{B:p Z}{F:bH}{x:Act},bV D n b F x->b4 n b B a->yP D e=f->bV D n b (rj e a F) {x with tmps:=(e.zip B).foldl (λtmps (j,k)=>tmps.setIfInBounds j k) x.tmps}
 |[],a,B,F,x,d,_,_=>by simpa[rj]using d
 |_::_,[],[],F,x,d,_,_=>by simpa[rj]using d
 |_::_,[],_::_,F,x,d,g,_=>g.elim
 |_::_,_::_,[],F,x,d,g,_=>g.elim
 |j::o,I::a,k::B,F,x,d,g,i=>by
  simp[yP]at i;split at i
  .rename_i l;have:=Gk (d.put (I:=j) (e' l) g.1) g.2 i;simpa[rj,Act.put]using this
  grind
def Z4:Exit->Option (Option Code)
 |.normal=>h q
 |.ret=>h (h .ret)
 |.exit id=>h (h (.exit id))
 |_=>q
def iy.intro{a4:Type}{i D}{e}{b}{bg}{n}{J:a4->p an}{w}(aS:n[i]?=h (.loop D e b))(bj:b.state=.ready)(aN:c bg=b.params.size)(X:yP D b.params.toList=f)(bn:bY r D b.assign (λy H g=>y=.normal/\g[i]?=h (.loop D e b)/\bY r D b.body (λy bb t=>Z4 y=h w/\t[i]?=h (.loop D e {b with state:=.busy}) /\
   ∃bp,q4 (t.set i (.loop D e {b with state:=if w.isNone then .ready else .done,pending:=w})) (J bp)) H (g.set i (.loop D e {b with state:=.busy}))) (rj b.params.toList bg e) n):iy r i bg n w.isNone J:=by
 intro A B d aa W aL;obtain⟨tmps,fn,bm,U,aF,aG,aH,bo⟩:=W.fJ aS aL;have ba:c B=b.params.size:=by grind[b4.get]
 obtain⟨a2,a3⟩:=ab0 (P:=P) (args:=B.toArray) aF M;refine⟨_,_,_,_,a2,a3,λaj ak k aI=>?_⟩;let E:aK:={fn:=fn,tmps:=#[],todo:=[],defers:=[],mode:=.run,kind:=.normal,roundOf:=h d}
 have o:E.kind≠.early:=by simp[E]
 have aJ:bV D n A (rj b.params.toList bg e) {tmps:=(b.params.zip B.toArray).foldl (λtmps (a1,x)=>tmps.setIfInBounds a1 x) tmps,defers:=[]}:=by
  have:=Gk (x:={tmps:=tmps,defers:=[]}) (F:=e) ⟨aG,⟨[],v⟩,aH⟩ aa X;have y:(b.params.zip B.toArray).foldl (λtmps (ae:Tmp×Z)=>tmps.setIfInBounds ae.1 ae.2) tmps=(b.params.toList.zip B).foldl (λtmps (ae:Tmp×Z)=>tmps.setIfInBounds ae.1 ae.2) tmps:=by rw[<-Array.foldl_toList];simp
  grind
 show cb r aj (G (E.M {tmps:=(b.params.zip B.toArray).foldl (λtmps (a1,x)=>tmps.setIfInBounds a1 x) tmps,defers:=[]} [.code b.assign,.beginRound,.code b.body]) (ak::k)) A;refine bn A _ aJ W E [.beginRound,.code b.body] (ak::k) aj o ?_;rintro y H g br aw ⟨rfl,aR,bq⟩ az a7 O;refine .next a λaZ Y=>?_;have ai:=r.bM Y;have Q:=a7.rely ai;have aA:=az.rely ai a7;have bl:∃L,aZ.m[i]?=h L/\L.v=.func (.yield d) #[] #[]:=by obtain⟨au,u,k1,z,av⟩:=(O.trans ai.aR).box i _ _ aS U;rw[aR]at k1;cases k1;exact⟨u,z,av⟩
 obtain⟨ar,a_,a8,S,T,aB,aC,aE⟩:=Q.fJ aR bl;have ah:=Q.gC (fT:={b with state:=.busy}) aR S T aB aC aE (.inr rfl);have N:∀{A:a5} {n:p an} {L:Loc},A.m[i]?=h L->L.al=[d]->ds A #[⟨.obj d,m,m⟩,⟨.obj d,f,m⟩]:=λ{A n L} V o=>
  .fh (mu (b8 V) M) (mu (b8 V) M)
 refine⟨_,_,_,ab8 (d:=d) a o T bj,⟨⟨_,_,Q,ah.1,ah.2⟩,ds.seen (N (n:=g) S a)⟩,?_⟩;have a6:=ah.2.tooU Q;have bh:=ah.1;refine bq _ aw (aA.mono a6 Q.len) bh E [] (ak::k) aj o ?_;rintro y bc bf a0 ax ⟨s,aQ,aP,bs⟩ f3 bt aM;have stA:=((O.trans ai.aR).trans a6).trans aM;have fin:∀I j,cU a0 j->((w=q/\I=[])∨(w=h .ret/\∃k1,I=.code .ret::k1)∨(∃id k1,w=h (.exit id)/\I=.code (.exit id)::k1/\exitTo id k1=q)) ->
   ∃R C K,aq P r.b7 (G (E.M ax I) (ak::k)) j.a=.go R C.a K/\kx j C K/\cb r aj R C:=by
  intro I j l bk;have ao:=bt.rely l;have bd:∃L,j.m[i]?=h L/\L.v=.func (.yield d) #[] #[]:=by obtain⟨au,u,k1,z,av⟩:=(stA.trans l.aR).box i _ _ aS U;rw[aQ]at k1;cases k1;exact⟨u,z,av⟩
  obtain⟨bu,a',a9,ab,ad,aT,aU,aV⟩:=ao.fJ aQ bd;have ag:=ao.gC (fT:={b with state:=if w.isNone then .ready else .done,pending:=w}) aQ ab ad aT aU aV (.inr rfl);obtain⟨aW,aX,_⟩:=bs _ ag.1;exact⟨_,_,_,acc (d:=d) a a ad bk,⟨⟨_,_,ao,ag.1,ag.2⟩,ds.seen (N (n:=bf) ab a)⟩,aI aP _ aW (((stA.trans l.aR).trans (ag.2.tooU ao)).trans (aX.tooU ag.1))⟩
 cases y with
 |normal=>
  cases s;exact .next a λj l=>fin [] j (r.bM l) (.inl ⟨a,a⟩)
 |ret=>
  cases s;intro pre;exact .next a λj l=>fin _ j (r.bM l) (.inr (.inl ⟨a,pre,a⟩))
 |exit id=>
  cases s;intro pre aO;refine .next a λj l=>fin _ j (r.bM l) (.inr (.inr ⟨id,_,a,a,?_⟩));have:=aO [];simpa[exitTo]using this
 |_=>cases s
end
def db(o:ai P)(l:Nat)(v:Code)(aM:fq)(u:bH)(k:p an):Prop:=
 ∀j r,bV l k j u r->bb k j->∀i t g (n:ak->a5->Prop),i.kind≠.early->i.roundOf=q ->
  (∀s d a b e,aM s d a->bV l a b d e->bb a b->dc k j a b->kG o n i t g s e b)->cb o n (G (i.M r (.code v::t)) g) j
section
variable {r:ai P}{aM:fq}
def bY.bA(l:bY r D s aM F n):db r D s aM F n:=λp g k d i o a e b _ j=>l p g k d i o a e b j
theorem db.seq{l X}(S:db r D l (v5 (db r D X aM) aM) F n):db r D (.seq l X) aM F n:=by
 intro V Q T e B K g A j b i;refine .ctl e a (λ_=>py) λU d=>?_;refine S U Q (T.rely d e) (e.rely d) B (.code X::K) g A j b ?_;intro t N O x p M J I z;have C:=d.aR.trans z;cases t with
 |normal=>exact M x p J I B K g A j b λt R o y s w u v k=>i t R o y s w u v (C.trans k)
 |_=>exact kG.cons (λ_ _=>rfl) E (i _ _ _ _ _ M J I C)
theorem db.block{id}(x:db r D s (uF id aM) F n):db r D (.block id s) aM F n:=by
 intro B t y e u i j p k g lR;refine .ctl e a (λ_=>y1) λz d=>?_;refine x z t (y.rely d e) (e.rely d) u (.inBlock id::i) j p k g ?_;intro aj dE ao l fE bc C ae o;have I:=d.aR.trans o;cases aj with
 |normal=>
  exact OK
 |exit b=>
  simp[uF]at bc;split at bc
  .exact Qr
  .rename_i w
   intro pre va;have:=lR (.exit b) dE ao l fE bc C ae I (pre++[.inBlock id]) (λf_=>by
    rw[mh,va];have:(id==b)=m:=M
    simp[exitTo,this])
   grind
 |ret=>exact lR _ _ _ _ _ bc C ae I
 |panic v=>exact lR _ _ _ _ _ bc C ae I
 |goto A=>exact lR _ _ _ _ _ bc C ae I
 |outgrown=>exact lR _ _ _ _ _ bc C ae I
def bb.jR(a:bb n b){t:Nat->Prop}(i:∀e,t e->e<b.a.heap.size/\∀L∈b.m,e∉L.al):bb n {b with own:=t}:=
 ⟨a.mem,a.len,λk d L aE g=>ep.cd (n:=n) (b:=b) (ao:=n) (az:={b with own:=t}) ⟨λ_ _ _ a=>a,λ_ d L a j=>⟨d,L,a,j,.refl _ _⟩⟩ a.len (λ_ _=>⟨rfl,λ_=>rfl⟩) (a.box k d L aE g),a.a3,a.lt,i⟩
def bb.bP(e:bb n b){a'}{t:Nat->Prop}(y:b.own a')(s:∀j,t j->b.own j)(E:¬t a')(B:∀C,b.u a' C=q)(w:b.a.heap[a']?=h (.deferred (h []))):
  bb (n++[.bn]) {b with m:=b.m++[⟨.int .i64 a',[a']⟩],own:=t}/\eT b {b with m:=b.m++[⟨.int .i64 a',[a']⟩],own:=t}:=by
 obtain⟨J,I⟩:=e.own a' y;have r:fh n b (n++[.bn]) {b with m:=b.m++[⟨.int .i64 a',[a']⟩],own:=t}:=by refine⟨λ_ _ _ e=>e,λl o L aE d=>⟨o,L,M,?_,.refl _ _⟩⟩;grind
 refine⟨⟨e.mem,by simp[e.len],?_,?_,?_,?_⟩,⟨a,λ_ _ _ e=>e,λ_ _ _=>rfl,e.mem,?_⟩⟩
 .intro l o L aE d;rcases rA d with v|⟨g,rfl⟩
  .have g:l<c n:=by rw[<-e.len];grind
   rw[ky g]at aE;exact(e.box l o L aE v).cd r e.len λ_ _=>⟨a,λ_=>rfl⟩
  rw[g,e.len,hl (bC _)]at aE;simp at aE;subst aE;exact⟨a',a,w,B⟩
 .intro l u L p d i j cT k;rcases rA d with k1|⟨z,rfl⟩<;>rcases rA i with x|⟨A,rfl⟩
  .exact e.a3 l u L p k1 x j cT k
  .grind
  .grind
  grind
 .intro L d j cT;simp[gk,gW]at d;rcases d with d|rfl
  .exact e.lt L d j cT
  grind
 .intro j cT;obtain⟨F,D⟩:=e.own j (s j cT);grind
 grind
def yM:Option Code->Option Exit
 |none=>h .normal
 |some .ret=>h .ret
 |some (.exit id)=>h (.exit id)
 |_=>q
def db.rangeFunc{bO}{ab}{assign body}{bH}{o3}{ao:ι->p an}{fT:ι->Loop}(aH:∀b w,bV D n b F w->bb n b->∃aX:p Z,w.eval bO=.func (.func bH) #[] aX.toArray/\b4 n b aX o3)(aI:bk r bH (.q (.aq (.aQ (c n)))::o3) (n++[.loop D F {state:=.ready,pending:=q,fn:=0,tmps:=#[],params:=ab,assign:=assign,body:=body,defers:=0}]) res ao)(bn:∀u,(ao u)[c n]?=h (.loop D F (fT u))/\(fT u).state≠.busy)(i:∀u,∃ak,yM (fT u).pending=h ak/\aM ak F ((ao u).set (c n) .x++[.bn])):db r D (.rangeFunc bO ab assign body) aM F n:=by
 intro b w bd aK j A ah bK d aR bm;obtain⟨⟨fn,aJ,W,b5⟩,b6⟩:=aI;refine .next a λe aP=>?_;have X:=r.bM aP;have x:=aK.rely X;have ai:=bd.rely X aK;obtain⟨aX,bt,N⟩:=aH e w ai x;generalize aQ:e.a.heap.size=a';have bT:=λeN=>aca (P:=P) (eN:=eN) (i:=A) (ah:=ah) (ab:=ab) (assign:=assign) (body:=body) (j:=j) (Q:=e.a) aR d aJ W b5 bt;rw[aQ]at bT;let w1:au:={e.a with heap:=e.a.heap.push (.deferred (h []))}
 let aU:Loop:={state:=.ready,pending:=q,fn:=j.fn,tmps:=w.tmps,params:=ab,assign:=assign,body:=body,defers:=a'}
 let w2:au:={e.a with heap:=(e.a.heap.push (.deferred (h []))).push (.loop aU)}
 have bR:w2.heap.size=a'+2:=M;have bs:w1.heap.size=a'+1:=M;have aL:∀j,j<e.a.heap.size->w1.heap[j]?=e.a.heap[j]?:=λj d=>by grind
 have V:∀j,j<w1.heap.size->w2.heap[j]?=w1.heap[j]?:=λj d=>by grind
 have bI:∀j,j<e.a.heap.size->w2.heap[j]?=e.a.heap[j]?:=λj d=>by grind
 have bu:w2.heap[a']?=h (.deferred (h [])):=M;have Y:w2.heap[a'+1]?=h (.loop aU):=M;have bx:∀j,e.a.heap.size<=j->∀t,e.u j t=q:=λj d t=>by
  cases o:e.u j t with
  |none=>rfl
  |some ae=>have:=x.block o;omega
 let k:Loc:=⟨.func (.yield (a'+1)) #[] #[],[a'+1]⟩
 let I:Loc:=⟨.int .i64 a',[a']⟩
 let C:Loop:={state:=.ready,pending:=q,fn:=0,tmps:=#[],params:=ab,assign:=assign,body:=body,defers:=0}
 obtain⟨bf,bg⟩:=x.cY (cd:=e.u) (bh:=w2) y bI (λ_ _ _=>rfl) (λj d t ae o=>by grind) rfl rfl rfl;have O:fh n e (n++[.loop D F C]) ⟨e.m++[k],e.u,w2,e.own⟩:=by refine⟨λ_ _ _ bj=>bj,λbS bU L aE g=>⟨bU,L,M,?_,.refl _ _⟩⟩;grind
 obtain⟨S,bZ⟩:=bf.b0 (bU:=.loop D F C) (L:=k) bg rfl x ⟨a'+1,w.tmps,j.fn,a',rfl,Y,ai.size,λb3=>(ai.aH b3).mono O x.len,λt=>bx _ y t⟩ (λj d=>by grind)
 have aC:=S.jR (t:=λj=>e.own j∨j=a') (by
  rintro j (d|rfl)
  .exact S.own j d
  .refine⟨by grind,λL g=>?_⟩;simp[gk,gW]at g;rcases g with g|rfl
   .intro ar;have:=x.lt L g j ar;omega
   grind)
 have d1:=x.dZ;obtain⟨a1,a2⟩:=d1.cY (cd:=e.u) (bh:=w1) y aL (λ_ _ _=>rfl) (λj d t ae o=>by grind) rfl rfl rfl;obtain⟨aq,a3⟩:=a1.b0 (bU:=.x) (L:=I) a2 rfl d1 v (λj d=>by grind);obtain⟨a4,a6⟩:=aq.cY (cd:=e.u) (bh:=w2) M V (λ_ _ _=>rfl) (λj d t ae o=>by grind) rfl rfl rfl;obtain⟨a8,a_⟩:=a4.b0 (bU:=.x) (L:=k) a6 rfl aq v (λj d=>by grind);have aF:eT ⟨e.m++[I]++[k],e.u,w2,e.own⟩ ⟨e.m++[k],e.u,w2,λj=>e.own j∨j=a'⟩:=by
  refine⟨a,λ_ _ _ bj=>bj,λ_ _ _=>rfl,S.mem,?_⟩;rintro j ((d|rfl)|⟨L,g,d⟩)
  .grind
  .exact .inr ⟨I,by simp,by grind⟩
  grind
 refine⟨_,⟨e.m++[I]++[k],e.u,w2,e.own⟩,_,bT r.b7,⟨⟨_,_,d1,a8,a3.trans a_⟩,.nil⟩,.aV aF (b6 _ (Value.func (.yield (a'+1)) #[] #[]::aX) ?_ aC bK _ λu bP ae b1 bW br bN aW=>?_)⟩
 .refine⟨⟨λbU B=>?_,k,?_,a,a⟩,?_⟩
  .rw[hl (bC _)]at B;simp at B;subst B;rfl
  .show (e.m++[k])[c n]?=_;rw[<-x.len,hl (bC _)];simp
  exact N.mono (n:=n) (b:=e) (ao:=n++[.loop D F C]) (az:=⟨e.m++[k],e.u,w2,λj=>e.own j∨j=a'⟩) ⟨O.mem,O.box⟩ x.len
 have T:(j.M {w with defers:={target:=.collected a',args:=#[]}::w.defers} (.inRangeFunc (a'+1)::A)).finish ae=j.M {w with defers:={target:=.collected a',args:=#[]}::w.defers} (.endRangeFunc (a'+1)::A):=cQ;refine uA (ah:=ah) (s:=j.M {w with defers:={target:=.collected a',args:=#[]}::w.defers} (.inRangeFunc (a'+1)::A)) bN bW λb2 bM=>?_;rw[T];refine .next a λK bY=>?_;have bL:=r.bM bY;have aZ:=(bN.rely bM).rely bL;have bJ:=(aW.trans bM.aR).trans bL.aR;obtain⟨bG,aN⟩:=bn u;have aG:∃L,K.m[c n]?=h L/\L.v=.func (.yield (a'+1)) #[] #[]:=by obtain⟨d',ag,k1,aS,aT⟩:=bJ.box (c n) (.loop D F C) k (show(n++[an.loop D F C])[c n]?=_ from wL) (by show(e.m++[k])[c n]?=_;rw[<-x.len,hl (bC _)];simp);rw[bG]at k1;cases k1;exact⟨ag,aS,aT⟩
 obtain⟨H,av,aj,aa,aV,bz,bB,bD⟩:=aZ.fJ bG aG;obtain⟨J,ad⟩:=aZ.gC (fT:={fT u with state:=.exhausted}) (d':=.x) bG aa aV bz bB bD (.inl rfl);refine⟨_,_,_,ab9 aV aN,⟨⟨_,_,aZ,J,ad⟩,ds.seen (.fh (mu (b8 aa) E) (mu (b8 aa) E))⟩,?_⟩;have z:=bJ.trans (ad.tooU aZ);generalize bQ:({K with a:={K.a with heap:=K.a.heap.setIfInBounds (a'+1) (.loop {{fT u with state:=.exhausted}with tmps:=H,fn:=av,defers:=aj})}}:a5)=l at J ad z;have aB:l.own a':=by rw[z.own];grind
 have aA:l.a.heap[a']?=h (.deferred (h [])):=by rw[z.a6 a' (.inr a)];omega
 have ax:∀t,l.u a' t=q:=λt=>by rw[z.bF a' M (λL g=>(aC.own a' (.inr a)).2 L g)];grind
 obtain⟨bF,t2⟩:=J.bP (a':=a') (t:=e.own) aB (λj d=>by rw[z.own];grind) (λar=>by have:=(x.own a' ar).1;omega) ax aA;refine .aV t2 ?_;have a0:dc n e ((ao u).set (c n) .x++[.bn]) {l with m:=l.m++[⟨.int .i64 a',[a']⟩],own:=e.own}:=by
  refine⟨M,λj d=>?_,λj t ae o=>z.mem j t ae o,λj d b0 t=>?_,λL g j d=>?_,λbS bU L aE g=>?_,z.os,z.tape,z.output,a⟩
  .show l.a.heap[j]?=_;rw[z.a6 j (.inl d)];exact bI j (x.own j d).1
  .show l.u j t=_;rw[z.bF j M (λL g=>?_)];grind
  .simp only[gk,gW]at g;rcases g with g|rfl
   .rcases z.bV L g j d with aw|⟨bX,aw,dp⟩
    .grind
    grind
   grind
  have bp:=(cO.1 aE).1;have bo:=(cO.1 g).1;obtain⟨d',ag,k1,aS,aT⟩:=z.box bS bU L M M;grind
 have bc:bV D ((ao u).set (c n) .x++[.bn]) {l with m:=l.m++[⟨.int .i64 a',[a']⟩],own:=e.own} F {w with defers:={target:=.collected a',args:=#[]}::w.defers}:=by
  have o:=ai.mono a0 x.len;obtain⟨bw,R⟩:=ai.defers;refine⟨o.size,⟨c ((ao u).set (c n) .x)::bw,⟨⟨M,⟨.int .i64 a',[a']⟩,a',?_,a,a⟩,λar=>?_,R.mono a0.ext⟩⟩,o.aH⟩
  .show (l.m++_)[_]?=_;rw[<-J.len,hl (bC _)];simp
  have aw:=R.e4 _ ar;grind
 obtain⟨ak,B,bq⟩:=i u;have bE:=bm ak F _ _ _ bq bc bF (X.aR.trans a0);revert B;show yM (fT u).pending=h ak->cb r bK (G (j.M _ (((fT u).pending.map Item.code).toList++A)) ah) _;intro B;cases aO:(fT u).pending with
 |none=>rw[aO]at B;cases B;exact bE
 |some s=>
  rw[aO]at B;cases s<;>simp[yM,reduceCtorEq,eR]at B
  .subst B;exact bE [] bl
  subst B;exact bE A
def bV.callee{o}{i}(d:look F o=ax (.fn (.func i) [] cap)):∀g a,bV D n g F a->bb n g->∃e:p Z,a.eval (.tmp o)=.func (.func i) #[] e.toArray/\b4 n g e (e0 cap):=by
 intro g a l _;have b:=l.aH o;rw[d]at b;have b:=b6 b;show ∃e:p Z,a.tmps.getD o K=.func (.func i) #[] e.toArray/\_;generalize a.tmps.getD o K=y at b;cases b with
 |fn t k d j r s u v w x=>
  grind[qa]
def bk.e3{i}{fn}{args}{ao:ι->p an}(v:P.funcs[i]?=h fn)(t:(fn.name== "runtime.NumGoroutine")=m)(l:fn.body=h s)(C:ay args.length fn.ntmps=f)(D:kw args n->db r fn.ntmps s (λA w g=>∃u,bT fn n.length (res u) (ao u) A w g) (hZ 0 args) n):bk r i args n res ao:=by refine⟨⟨fn,v,t,by grind⟩,λe B b a=>?_⟩;exact(bk.hK v t l (e' C) λI y i E z F j x o d k=>D ⟨e,B,b,a⟩ I y i E z F j x o d k).2 e B b a
def Rs(fn:Func)(e:z)(a:p an):fq:=λj k g=>
 (j=.ret∨j=.normal)/\g=a/\jO a=f/\∃b i d,oC k fn.results.toList=h b/\pf b=h i/\kk i e=h d/\U d
def bk.bR{j}{fn}{args}{ao:ι->p an}(X:P.funcs[j]?=h fn)(au:(fn.name== "runtime.NumGoroutine")=m)(I:fn.body=h s)(V:ay args.length fn.ntmps=f)(aq:bY r fn.ntmps s (λaj ae g=>∃W,Rs fn (res W) (ao W) aj ae g) (hZ 0 args) n):bk r j args n res ao:=by
 refine⟨⟨fn,X,au,by grind⟩,λaz B M J U i F=>?_⟩;obtain⟨ar,O⟩:=b4.get M;let t:aK:={fn:=j,tmps:=#[],todo:=[],defers:=[],mode:=.run,kind:=.normal,roundOf:=q}
 have ah:Frame.enter P j B.toArray .normal=t.M {tmps:=B.toArray++Array.replicate (fn.ntmps-B.toArray.size) K,defers:=[]} [.code s]:=by simp[Frame.enter,Frame.M,X,I,t]
 rw[ah];have V:=e' V;refine aq az {tmps:=B.toArray++Array.replicate (fn.ntmps-B.toArray.size) K,defers:=[]} ⟨by grind,⟨[],v⟩,λo=>?_⟩ J t [] i U E ?_
 .rw[yt];simp[gX,dH,so];have:=O o;rcases dY o (c B) with aH|aG
  .exact PZ
  rw[wN y];trivial
 rintro aj ag g S e ⟨N,R,rfl,aw,u,ai,ax,C,D,ad,aa⟩ ab l T;have fin:∀b d,cU S d->b.fn=j->b.tmps=e.tmps->b.defers=e.defers->b.mode=.returning->b.kind=.normal->cb r U (G b i) d:=by
  intro b d a w x ak z A;have Y:=ab.rely a l;obtain⟨aB,aE,H,aC⟩:=LG (P:=P) Y C D;obtain⟨k,Q⟩:=Y.defers;have aF:e.defers=[]:=by
   cases k with
   |nil=>cases aA:e.defers with
    |nil=>rfl
    |cons ai u=>rw[aA]at Q;exact Q.elim
   |cons av k=>exact absurd rfl (vr aw _ (b8 (Q.e4 av E)))
  refine F N b aB _ ⟨w,z,by grind,A,fn,by grind,λZ _=>?_⟩ (pg ad aa H) (l.rely a) (T.trans a.aR);rw[x];exact⟨aE Z,λaj R=>by rw[aC Z #[]]at R;grind⟩
 rcases R with rfl|rfl
 .intro pre;exact .ctl l rfl (λ_=>DX rfl) λd a=>fin _ d a rfl rfl (hY _) rfl rfl
 exact .ctl l rfl (λ_=>DV rfl) λd a=>fin _ d a rfl rfl (hY _) rfl rfl
end
structure ul{P:aI}(r:ai P)(D:Nat)(aC:Array ap)(F:bH)(n:p an)(l:Nat->z)(s:Nat->bH)(idx:Nat->Option Nat)(last:Nat):Prop where
 cS:∀e t,aC[e]?=h t->∀aj∈t.after,eL aj=f->aj.on<e
 e2:∀e t I,aC[e]?=h t->t.dst=h I->idx I=h e/\I<D
 dO:∀I e,idx I=h e->∃t,aC[e]?=h t/\t.dst=h I
 aq:∀e t,aC[e]?=h t->e≠last->aT r D aC.toList t (s e) n (l e) n
 e0:∀e t,aC[e]?=h t->e≠last->∀o n b aa,bx n b aa (match idx o with|some w=>(if ∃aj∈t.after,eL aj=f/\aj.on=w then l w else .any)|none=>look F o)->bx n b aa (look (s e) o)
 hp:∀t,aC[last]?=h t->∀w,w<aC.size->w≠last->∃aj∈t.after,eL aj=f/\aj.on=w
 ed:last<aC.size
section
variable {r:ai P}{l:Nat->z}{s:Nat->bH}{idx:Nat->Option Nat}{last:Nat}
theorem J2{a o}(j:∀b,b<aC.size->L.getD b f=f):Region.linearise.go .any aC a o L []=[]:=by
 cases a with
 |zero=>exact C5 o L
 |succ k=>
  have d:aS .any aC L=[]:=by
   cases d:aS .any aC L with
   |nil=>rfl
   |cons e g=>
    have i:e∈aS .any aC L:=M;grind[pk]
  grind[vk]
def ul.eO(u:ul r D aC F n l s idx last){W:ak->a5->Prop}{z:aK}{I}(B:z.kind≠.early){cE}(aa:∀d j,j.tmps.size=D->(∀b,bx n d (j.tmps.getD b K) (match idx b with|some o=>if o=last then .any else l o|none=>look F b))->j.defers=[]->bb n d->dc n cE n d->cb r W (G (z.M j (.inRegion aC [last]::I)) ah) d):
  ∀E L,L.size=aC.size->c (L.toList.filter (λz=>!z))<=E->¬L.getD last m=f ->
   (∀e x,aC[e]?=h x->L.getD e m=f->∀g∈x.after,eL g=f->L.getD g.on m=f) ->
   ∀d j,l' D n d (gx F l idx L) j->j.defers=[]->bb n d->dc n cE n d ->
   ∀b,cb r W (G (z.M j (.inRegion aC (Region.linearise.go .any aC E b L [])::I)) ah) d:=by
 intro E;induction E with
 |zero=>
  intro L ai ab an aF d j v S w Q b;exfalso;have T:L[last]'(by have:=u.ed;omega)∈L.toList:=by simp
  have az:=u.ed;cases B:L[last]'y with
  |true=>exact an (by simp[hk,iz (by omega:last<L.size),B])
  |false=>
   have:L[last]'y∈L.toList.filter (λz=>!z):=kB.2 ⟨T,by grind⟩;grind
 |succ E aj=>
  intro L ai ab an aF d j v S w Q b;rw[vk];cases aw:(aS .any aC L)[b % c (aS .any aC L)]? with
  |none=>
   exfalso;have ag:aS .any aC L=[]:=by
    cases ag:aS .any aC L with
    |nil=>rfl
    |cons aO aN=>
     grind[Nat.mod_lt]
   have ax:∀e,e<aC.size->L.getD e m=f:=by
    intro e;induction e using Nat.strongRecOn with
    |_ e au=>
     intro C;cases B:L.getD e m with
     |true=>rfl
     |false=>
      have T:e∈aS .any aC L:=pk.2 ⟨aC[e],iz C,by
       grind,λg X V=>by
       have:=u.cS e _ (iz C) g X V
       grind⟩
      grind
   exact an (ax last u.ed)
  |some e=>
   have C:=b8 aw;obtain⟨x,p,ar,ae⟩:=pk.1 C;have az:e<aC.size:=(i_.1 p).1;have H:¬L.getD e m=f:=M;by_cases ao:e=last
   .subst ao;have O:Region.linearise.go .any aC E (b / c (aS .any aC L)) (L.setIfInBounds e f) []=[]:=by
     refine J2 λo ad=>?_;have aq:(L.setIfInBounds e f).getD o m=f:=by
      rw[mx y];by_cases g:o=e
      .grind
      obtain⟨Z,X,V,rfl⟩:=u.hp x p o ad g;grind
     grind
    simp[O];refine aa d j v.size (λb=>?_) S w Q;have:=v.aH b;unfold gx at this;cases i:idx b with
    |none=>grind
    |some o=>
     simp only[i]at this⊢;obtain⟨vt,bz,_⟩:=u.dO _ _ i;by_cases g:o=e
     .rw[bs g];trivial
     rw[bm g];obtain⟨Z,X,V,rfl⟩:=u.hp x p o (i_.1 bz).1 g;grind
   have aI:(L.setIfInBounds e f).size=aC.size:=M;have aH:c ((L.setIfInBounds e f).toList.filter (λz=>!z))<=E:=by have A:L.toList[e]?=h m:=QI;grind[xD]
   have av:∀o U,aC[o]?=h U->(L.setIfInBounds e f).getD o m=f->∀g∈U.after,eL g=f->(L.setIfInBounds e f).getD g.on m=f:=wv;have aJ:¬(L.setIfInBounds e f).getD last m=f:=wv
   have aB:bV D n d (s e) j:=v.fg λb n d R N=>u.e0 e x p ao b n d R (by
    unfold gx at N;cases i:idx b with
    |none=>grind
    |some o=>
     simp only[i]at N⊢;split
     .grind
     .trivial)
   have aL:∀t R,dc n d n t->bx n t R (l e)->l' D n t (gx F l idx (L.setIfInBounds e f)) (j.put x.dst R):=by
    intro t R J N;cases S:x.dst with
    |none=>
     refine⟨v.size,v.defers.imp λ_ A=>A.mono J.ext,λb=>?_⟩;have k:=(v.aH b).mono J.ext w.len;simp only[Act.put];unfold gx at k⊢;cases i:idx b with
     |none=>grind
     |some o=>
      exact OH
    |some Y=>
     obtain⟨aG,aA⟩:=u.e2 e x Y p S;refine⟨by simp[Act.put,v.size],v.defers.imp λ_ A=>A.mono J.ext,λb=>?_⟩;simp only[Act.put];by_cases g:Y=b
     .subst g;have aM:Y<j.tmps.size:=by rw[v.size];exact aA
      simp only[hk,uv aM,im];unfold gx;simp only[aG];rw[bs ((mx y).2 (.inl a))];exact N
     have k:=(v.aH b).mono J.ext w.len;simp only[hk]at k⊢;rw[sy g];unfold gx at k⊢;cases i:idx b with
     |none=>grind
     |some o=>
      exact OH
   have:=u.aq e x p ao d j aB w z I ah W e (Region.linearise.go .any aC E (b / c (aS .any aC L)) (L.setIfInBounds e f) []) B M;simp only[wV]at this;exact this λR t N aE J=>aj _ aI aH aJ av t _ (aL _ _ J N) (by cases x.dst<;>exact S) aE (Q.trans J) _
theorem ul.region(B:ul r D aC F n l s idx last)(M:P.follows Departure.mixedOrders=f){A:ak->a5->Prop}{u:aK}{j}(v:u.kind≠.early){cE}{wI}{id}(b3:bV D n cE F wI)(J:wI.defers=[])(y:bb n cE)(N:∀p k,k.tmps.size=D->(∀d,bx n p (k.tmps.getD d K) (match idx d with|some w=>if w=last then .any else l w|none=>look F d))->k.defers=[]->bb n p->dc n cE n p->cb r A (G (u.M k (.inRegion aC [last]::j)) ah) p):
  cb r A (G (u.M wI (.code (.region id aC f)::j)) ah) cE:=by
 refine .next a λb i=>?_;have i:=r.bM i;have g:=y.rely i;have C:=b3.rely i y;have x:cN n b n {b with a:={b.a with drawn:=b.a.drawn+1}}:=cN.same rfl rfl rfl rfl;have z:bb n {b with a:={b.a with drawn:=b.a.drawn+1}}:=g.same rfl;have I:=i.aR.trans (x.tooU g);refine⟨_,{b with a:={b.a with drawn:=b.a.drawn+1}},#[],DW,⟨⟨n,n,g,z,x⟩,.nil⟩,?_⟩;simp[Region.schedule,M,Bool.true_or,dH];refine B.eO v (cE:=cE) N aC.size _ E E wm E4 _ wI ?_ J z I _;have o:=C.mono (x.tooU g) g.len;refine⟨o.size,o.defers,λd=>?_⟩;unfold gx;cases O:idx d with
 |none=>exact o.aH d
 |some w=>
  simp only;rw[bm]
  .exact o.aH d
  exact wm
end
def dx(r:ai P)(x:Nat)(a:p ap)(u:ap)(w:bH)(k:p an)(y:ι->z)(e:ι->p an):Prop:=
 ∀j l,bV x k j w l->bb k j->∀(n:aK) t g (o:ak->a5->Prop) s b,n.kind≠.early->a.toArray[s]?=h u ->
  (∀i v d,bx (e i) d v (y i)->bb (e i) d->dc k j (e i) d->cb r o (G (n.M (l.put u.dst v) (.inRegion a.toArray b::t)) g) d)->cb r o (G (n.M l (.inRegion a.toArray (s::b)::t)) g) j
def pI:p ap->Nat->(Nat->z)->p (Option Nat×z)
 |[],_,_=>[]
 |d::e,a,b=>(d.dst,b a)::pI e (a+1) b
def EA{g:Nat->z}:∀{e:p ap}{b a:Nat},(pI e b g)[a]?=(e[a]?).map λd=>(d.dst,g (b+a))
 |[],b,a=>by simp[pI]
 |d::i,b,0=>by simp[pI]
 |d::i,b,a+1=>by simp[pI,nY];rw[EA,show b+1+a=b+(a+1) by omega]
def dy(a:p ap)(b:bH)(g:Nat->z)(d:Nat):bH:=fL (λe=>ed e (c5 (a.getD d en).after.toList)) 0 (pI a 0 g) (mJ a b)
def ng(a:p ap)(b:bH)(d:Nat->z):bH:=fL (λ_=>f) 0 (pI a 0 d) (mJ a b)
def n'(a:Nat):p ap->Bool
 |[]=>f
 |b::d=>match fa a b.dst with|true=>n' a d|false=>m
def H8{D}:∀{e:p ap},n' D e=f->∀(a:Nat)b,e[a]?=h b->fa D b.dst=f
 |[],_,a,b,d=>by grind
 |j::k,d,a,b,g=>by
  simp[n']at d;split at d
  .rename_i i;cases a with
   |zero=>grind
   |succ a=>exact H8 d a b M
  grind
def n1:p ap->Nat->Bool
 |[],_=>f
 |b::d,a=>match td a (c5 b.after.toList)with|true=>n1 d (a+1)|false=>m
def Gf:∀{j:p ap}{i:Nat},n1 j i=f->∀(a:Nat)d,j[a]?=h d->∀g∈c5 d.after.toList,g<i+a
 |[],_,_,a,d,e=>by grind
 |n::o,i,e,a,d,b=>by
  simp[n1]at e;split at e
  .rename_i k;cases a with
   |zero=>simp at b;subst b;exact C7 k
   |succ a=>intro g l;have:=Gf e a d M g l;omega
  grind
def w0(pre:Nat->Bool):p Nat->Bool
 |[]=>m
 |a::b=>match pre a with|true=>w0 pre b|false=>f
theorem F8{pre:Nat->Bool}:∀{d:p Nat},w0 pre d=f->∃b∈d,pre b=m
 |[],a=>by cases a
 |b::g,a=>by
  simp[w0]at a;split at a
  .obtain⟨s,e,j⟩:=F8 a;grind
  grind
def n6(pre:Nat->Bool)(b:Nat):p ap->Nat->Bool
 |[],_=>f
 |e::d,a=>match pre a with
  |true=>n6 pre b d (a+1)
  |false=>match af a b with
   |true=>n6 pre b d (a+1)
   |false=>match w0 pre (c5 e.after.toList)with|true=>n6 pre b d (a+1)|false=>m
theorem Hu{pre:Nat->Bool}{A}:∀{i:p ap}{d:Nat},n6 pre A i d=f->∀(a:Nat)e,i[a]?=h e->pre (d+a)=m->d+a≠A->∃n∈c5 e.after.toList,pre n=m
 |[],_,_,a,e,g=>by grind
 |r::o,d,g,a,e,b=>by
  intro j k;simp[n6]at g;cases a with
  |zero=>
   simp at b;subst b;simp[j9]at j k;grind[Nat.eq_of_beq_eq_true,F8]
  |succ a=>
   have l:n6 pre A o (d+1)=f:=M;exact Hu l a e M M y
section
variable {r:ai P}{idx:Nat->Option Nat}
def X_{i:Nat->z}{k}(r:∀a n b g,bx n b g (match idx a with|some j=>(if ∃d∈t.after,eL d=f/\d.on=j then i j else .any)|none=>look F a)->bx n b g (look (dy aC.toList F i e) a))(p:l' D n b (gx F i idx L) k)(s:∀d∈t.after,eL d=f->L.getD d.on m=f):bV D n b (dy aC.toList F i e) k:=p.fg λa n b g l=>r a n b g (by
 unfold gx at l;cases o:idx a with
 |none=>grind
 |some j=>
  simp only[o]at l⊢;split
  .grind
  .trivial)
def aer{s p:Nat->z}{d}{o}(u:∀g,t.dst=h g->idx g=h e/\g<D)(N:∀g l,idx g=h l->∃t,aC[l]?=h t/\t.dst=h g)(A:aC[e]?=h t)(M:e<L.size)(O:∀l,L.getD l m=f->p l=s l)(w:c b.m=c n)(j:dc n b d az)(k:l' D n b (gx F s idx L) o)(J:bx d az aa (p e)):l' D d az (gx F p idx (L.setIfInBounds e f)) (o.put t.dst aa):=by
 have old:∀i,idx i≠h e->bx d az (o.tmps.getD i K) (gx F p idx (L.setIfInBounds e f) i):=by intro i Q;have x:=(k.aH i).mono j.ext w;unfold gx at x⊢;grind[mx]
 cases I:t.dst with
 |none=>
  refine⟨k.size,k.defers.imp λ_ r=>r.mono j.ext,λi=>?_⟩;refine old i λy=>?_;grind
 |some g=>
  obtain⟨B,E⟩:=u g I;refine⟨by simp[Act.put,k.size],k.defers.imp λ_ r=>r.mono j.ext,λi=>?_⟩;simp[Act.put];by_cases v:g=i
  .subst v;have C:g<o.tmps.size:=by rw[k.size];exact E
   simp[hk,uv C,im];unfold gx;simp only[B];rw[bs ((mx M).2 (.inl a))];exact J
  have:=old i (λy=>by grind);simp[hk]at this⊢;grind
def RK{R4:∀a e,aC[a]?=h e->∀b∈e.after,eL b=f->b.on<a}(o:L.size=aC.size)(l:aS .any aC L=[]):∀a,a<aC.size->L.getD a m=f:=by
 intro a;induction a using Nat.strongRecOn with
 |_ a g=>
  intro d;cases n:L.getD a m with
  |true=>rfl
  |false=>
   have j:a∈aS .any aC L:=pk.2 ⟨aC[a],iz d,by grind,λb k i=>by grind⟩;grind
def aaH{o}(a:(aS .any aC L)[o % c (aS .any aC L)]?=q):aS .any aC L=[]:=by
 cases d:aS .any aC L with
 |nil=>rfl
 |cons e b=>
  grind[Nat.mod_lt]
theorem RM(i:L.size=aC.size)(j:c (L.toList.filter (λb=>!b))<=0):∀a,a<aC.size->L.getD a m=f:=by
 intro a g;have d:L[a]'y∈L.toList:=E;cases e:L[a]'y with
 |true=>simp[hk,iz (by omega:a<L.size),e]
 |false=>
  have:L[a]'y∈L.toList.filter (λb=>!b):=kB.2 ⟨d,by grind⟩;grind
end
def dk(b:Nat)(z:Nat->Bool):Nat->Bool:=λa=>match af a b with|true=>f|false=>z a
section
variable {r:ai P}{C:Type}{l:C->Nat->z}{idx:Nat->Option Nat}{bq:C->(Nat->Bool)->p an}{e_:C->(Nat->Bool)->Prop}{s:Nat}
def kg(L:Array Bool):Nat->Bool:=λa=>L.getD a m
def SQ(a:e<L.size):kg (L.setIfInBounds e f)=dk e (kg L):=by funext w;have b:=mx (L:=L) (e:=e) (w:=w) a;simp[kg,dk];grind[Nat.eq_of_beq_eq_true,Nat.beq_refl]
def Sv{s}(j:L.size=k)(i:∀e,s<=e->¬L.getD e m=f):k-s<=c (L.toList.filter (λa=>!a)):=by
 have l:(L.toList.drop s).filter (λa=>!a)=L.toList.drop s:=by rw[sg];intro a g;obtain⟨d,b,rfl⟩:=hD g;have:=i (s+d) y;simp[sk,m5]at b;simp[hk,iz (by omega:s+d<L.size),im]at this;grind
 grind[List.drop_sublist]
theorem nS.iH(all)(s):nS all (List.range' s (c all-s)) (all.drop s):=by
 have key:∀a k,(∀w t,a[w]?=h t->all[k+w]?=h t)->nS all (List.range' k (c a)) a:=by
  intro a;induction a with
  |nil=>intro k _;trivial
  |cons t b x=>
   exact P1
 have:=key (all.drop s) s λw t u=>by grind
 grind
structure ui{P:aI}(r:ai P)(D:Nat)(aC:Array ap)(F:bH){C:Type}(l:C->Nat->z)(bq:C->(Nat->Bool)->p an)(e_:C->(Nat->Bool)->Prop)(idx:Nat->Option Nat)(s:Nat):Prop where
 cS:∀e t,aC[e]?=h t->∀aj∈t.after,eL aj=f->aj.on<e
 e2:∀e t I,aC[e]?=h t->t.dst=h I->idx I=h e/\I<D
 dO:∀I e,idx I=h e->∃t,aC[e]?=h t/\t.dst=h I
 aq:∀κ (z:Nat->Bool) e t,e_ κ z->aC[e]?=h t->e<s->z e=m->(∀aj∈t.after,eL aj=f->z aj.on=f)->(∀w Kv,aC[w]?=h Kv->z w=f->∀aj∈Kv.after,eL aj=f->z aj.on=f)->dx r D aC.toList t (dy aC.toList F (l κ) e) (bq κ z) (λbc:{Rg:C // (∀w,z w=f->l Rg w=l κ w)/\e_ Rg (dk e z)}=>l bc.1 e) (λbc=>bq bc.1 (dk e z))
 e0:∀(l:Nat->z) e t,aC[e]?=h t->∀o n b aa,bx n b aa (match idx o with|some w=>(if ∃aj∈t.after,eL aj=f/\aj.on=w then l w else .any)|none=>look F o)->bx n b aa (look (dy aC.toList F l e) o)
 fin:∀(l:Nat->z) o n b aa,bx n b aa (match idx o with|some w=>l w|none=>look F o)->bx n b aa (look (ng aC.toList F l) o)
 gV:∀e t,aC[e]?=h t->s<=e->∀L:Array Bool,(∀e t,aC[e]?=h t->L.getD e m=f->∀aj∈t.after,eL aj=f->L.getD aj.on m=f)->(∀aj∈t.after,eL aj=f->L.getD aj.on m=f)->∀i,i<e->L.getD i m=f
 f':s<=aC.size
 h8:∀κ (z:Nat->Bool),e_ κ z->(∀e,e<s->z e=f)->∀e,s<=e->e<aC.size->l κ e=.any
def Jk(b:L.size=k)(a:e<k):L.getD e f=m↔¬L.getD e m=f:=M
theorem ui.seq(u:ui r D aC F l bq e_ idx s):∀n a(L:Array Bool)z,L.size=aC.size->s<=a->a<=aC.size->aC.size-a<=n->(∀p,p<aC.size->(L.getD p m=f↔p<a)) ->
  Region.linearise.go .any aC n z L []=List.range' a (aC.size-a):=by
 intro n;induction n with
 |zero=>
  grind[C5]
 |succ n V=>
  intro a L z C W X Y B;by_cases O:a=aC.size
  .grind [J2]
  .rw[vk];have w:a<aC.size:=y;have S:∀b k,aC[b]?=h k->L.getD b m=f->∀j∈k.after,eL j=f->L.getD j.on m=f:=λb k d i j x g=>by have o:=(i_.1 d).1;have e:=(B b o).1 i;have E:=u.cS b k d j x g;grind
   have T:∀b,b∈aS .any aC L->b=a:=λb i=>by
    obtain⟨k,d,v,U⟩:=pk.1 i;have o:=(i_.1 d).1;have K:¬b<a:=λQ=>(Jk C o).1 v ((B b o).2 Q);rcases dY a b with e|e
    .have:=u.gV b k d y L S U a e;grind
    omega
   have R:a∈aS .any aC L:=pk.2 ⟨aC[a],iz w,(Jk C w).2 (λI=>by grind),λj x g=>by
    have:=u.cS a _ (iz w) j x g
    grind⟩
   have N:0<c (aS .any aC L):=List.length_pos_of_mem R;have A:=pZ z N;rw[bI A];have t:=T _ (wR A);simp[t];rw[V (a+1) _ _ M y y y (λp J=>by grind[mx])];rw[show aC.size-a=(aC.size-(a+1))+1 by omega,List.range'_succ]
def ui.eO(o:ui r D aC F l bq e_ idx s){aM:ak->a5->Prop}{v:aK}{x}(Y:v.kind≠.early){dM}{cE}(X:∀b z d i,e_ b z->(∀e,e<s->z e=f)->bV D (bq b z) d (ng aC.toList F (l b)) i->bb (bq b z) d->dc dM cE (bq b z) d->cb r aM (G (v.M i (.inRegion aC (List.range' s (aC.size-s))::x)) ah) d):
  ∀u b L,e_ b (kg L)->L.size=aC.size->c (L.toList.filter (λv=>!v))<=u->(∀p,s<=p->¬L.getD p m=f) ->
   (∀e A,aC[e]?=h A->L.getD e m=f->∀I∈A.after,eL I=f->L.getD I.on m=f) ->
   ∀d i,l' D (bq b (kg L)) d (gx F (l b) idx L) i->bb (bq b (kg L)) d->dc dM cE (bq b (kg L)) d ->
   ∀n,cb r aM (G (v.M i (.inRegion aC (Region.linearise.go .any aC u n L [])::x)) ah) d:=by
 have fin:∀b L d i u n,e_ b (kg L)->L.size=aC.size->c (L.toList.filter (λv=>!v))<=u->(∀p,s<=p->¬L.getD p m=f)->(∀e,e<s->L.getD e m=f)->l' D (bq b (kg L)) d (gx F (l b) idx L) i->bb (bq b (kg L)) d->dc dM cE (bq b (kg L)) d->cb r aM (G (v.M i (.inRegion aC (Region.linearise.go .any aC u n L [])::x)) ah) d:=by
  intro b L d i u n B N R Q ai E j t;have W:=o.f';rw[o.seq u s L n N (bC _) W (by have aE:=Sv (k:=aC.size) (s:=s) N Q;omega) (λp J=>⟨λaj=>by grind,λaj=>ai p aj⟩)]
  exact X b _ d i B ai (E.fg λn ax d ar H=>o.fin (l b) n ax d ar (by
   unfold gx at H;cases w:idx n with
   |none=>grind
   |some p=>
    simp only[w]at H⊢;obtain⟨A,g,_⟩:=o.dO _ _ w;rcases dY p s with C|C
    .grind
    .rw[o.h8 b _ B ai p C (i_.1 g).1];trivial)) j t
 intro u;induction u with
 |zero=>
  intro b L B N R Q V d i E j t n;have W:=o.f';grind[RM]
 |succ u ab=>
  intro b L B N R Q V d i E j t n;have W:=o.f';cases ad:(aS .any aC L)[n % c (aS .any aC L)]? with
  |none=>exact fin b L d i _ n B N R Q (λe w=>RK (R4:=o.cS) N (aaH ad) e y) E j t
  |some e=>
   have w:=b8 ad;obtain⟨A,g,ao,ag⟩:=pk.1 w;have aq:e<aC.size:=(i_.1 g).1;rcases dY e s with O|O
   rotate_left
   .exact fin b L d i _ n B N R Q (λp J=>o.gV e A g O L V ag p y) E j t
   rw[vk,ad];have av:¬L.getD e m=f:=M;have aG:c ((L.setIfInBounds e f).toList.filter (λv=>!v))<=u:=by
    have C:L.toList[e]?=h m:=by rw[FU,iz (by omega:e<L.size)];simpa[hk,iz (by omega:e<L.size)]using av
    grind[xD]
   have au:∀S K,aC[S]?=h K->(L.setIfInBounds e f).getD S m=f->∀I∈K.after,eL I=f->(L.setIfInBounds e f).getD I.on m=f:=wv;have a:bV D (bq b (kg L)) d (dy aC.toList F (l b) e) i:=X_ (o.e0 (l b) e A g) E ag;have:=o.aq b (kg L) e A B g O (by unfold kg;grind) ag V d i a j v x ah aM e (Region.linearise.go .any aC u (n / c (aS .any aC L)) (L.setIfInBounds e f) []) Y M;simp only[wV]at this;refine this λaF ar ae H U T=>?_;obtain⟨aA,az,an⟩:=aF;have aw:=SQ (L:=L) (e:=e) y;simp only at H U T;rw[<-aw]at H U T an;exact ab aA _ an M aG (λp J=>by grind[mx]) au ae _ (aer (λaB Z=>o.e2 e A aB g Z) o.dO g y (λS aa=>az S aa) j.len T E H) U (t.trans T) _
def bY.reg(aF:P.follows Departure.mixedOrders=f)(x:Nat)(u:C->Nat->z)(Q:C->(Nat->Bool)->p an)(g:C->(Nat->Bool)->Prop)(au:C)(aU:g au λ_=>m)(aC:Q au (λ_=>m)=n)(ao:kM all=f)(a5:n1 all 0=f)(a6:n' D all=f)(a9:x<=c all)(R:∀e,x<=e->e<c all->∀L:Nat->Prop,(∀e,e<c all->L e->∀j∈c5 (all.getD e en).after.toList,L j)->(∀j∈c5 (all.getD e en).after.toList,L j)->∀K,K<e->L K)(B:∀k (z:Nat->Bool),g k z->(∀e,e<x->z e=f)->∀e,x<=e->e<c all->u k e=.any)(ag:∀k (z:Nat->Bool) e t,g k z->all[e]?=h t->e<x->z e=m->(∀j∈c5 t.after.toList,z j=f)->(∀i ae,all[i]?=h ae->z i=f->∀j∈c5 ae.after.toList,z j=f)->dx r D all t (dy all F (u k) e) (Q k z) (λaL:{aQ:C // (∀i,z i=f->u aQ i=u k i)/\g aQ (dk e z)}=>u aL.1 e) (λaL=>Q aL.1 (dk e z))){aM:fq}(aE:∀k z,g k z->(∀e,e<x->z e=f)->e9 r D all (all.drop x) (aM .normal) (ng all F (u k)) (Q k z))(id:Nat):
  bY r D (.region id all.toArray f) aM F n:=by
 have S:∀e:Nat,all.toArray[e]?=all[e]?:=λe=>by simp
 let idx:Nat->Option Nat:=λo=>(aD (c all)).find? (λe=>decide ((all.getD e en).dst=h o));have ba:∀o i,idx o=h i->∃t,all[i]?=h t/\t.dst=h o:=M;have a1:∀e t I,all[e]?=h t->t.dst=h I->idx I=h e:=by
  intro e t I cv v;have bp:e<c all:=(cO.1 cv).1;cases aI:idx I with
  |none=>
   have:=List.find?_eq_none.1 aI e M;grind
  |some i=>
   grind[Dj]
 have bc:∀o,jM o all=f↔∃i,idx o=h i:=by grind[CM,u']
 have G:∀e t,all[e]?=h t->all.getD e en=t:=λe t bd=>by grind
 have v:ui r D all.toArray F u Q g idx x:=by
  refine⟨?_,?_,?_,?_,?_,?_,λe t cv V L aV aW K aG=>?_,by grind,λk z ar aw e l s=>B k z ar aw e l M⟩
  .intro e t cv j ad y;rw[S]at cv;have:=Gf a5 e t cv j.on (l0.2 ⟨j,by grind,y,rfl⟩);omega
  .intro e t I cv v;rw[S]at cv;exact⟨a1 e t I cv v,k9 (H8 a6 e t cv) I v⟩
  .grind
  .intro k z e t ar cv ab T aH aX;rw[S]at cv;exact ag k z e t ar cv ab T (λj ad=>by grind[l0]) λi t J aT j ad=>by grind[l0]
  .intro u e t cv o n b aa ak;rw[S]at cv;show bx n b aa (look (dy all F u e) o);unfold dy;rw[G e t cv];rcases vn (A:=λi=>ed i (c5 t.after.toList)) (F:=mJ all F) (o:=o) (d:=pI all 0 u) (e:=0)with⟨i,X,l,s,w⟩|w
   .rw[w];rw[EA]at l;cases J:all[i]? with
    |none=>grind
    |some aK=>
     simp[J,lC,eR,lD,cV]at l;rw[a1 i aK o J l.1]at ak;simp only at ak;rw[bs]at ak
     .grind
     simp[cV]at s;obtain⟨j,aR,aS,x⟩:=l0.1 (qB s);grind
   rw[w,tc];split
   .trivial
   grind
  .intro u o n b aa ak;show bx n b aa (look (ng all F u) o);unfold ng;rcases vn (A:=λ_=>f) (F:=mJ all F) (o:=o) (d:=pI all 0 u) (e:=0)with⟨i,X,l,s,w⟩|w
   .rw[w];rw[EA]at l;grind
   rw[w,tc];split
   .trivial
   grind
  rw[S]at cv;refine R e V (cO.1 cv).1 (λK=>L.getD K m=f) (λa' aZ a_ j ad=>?_) (λj ad=>?_) K aG
  .grind [l0]
  grind[l0]
 intro b aR a7 Y aS aJ aA av y U;refine .next a λO aj=>?_;have aj:=r.bM aj;have ai:=Y.rely aj;have H:=a7.rely aj Y;have N:cN n O n {O with a:={O.a with drawn:=O.a.drawn+1}}:=cN.same rfl rfl rfl rfl;have Z:bb n {O with a:={O.a with drawn:=O.a.drawn+1}}:=ai.same rfl;have a2:=aj.aR.trans (N.tooU ai);refine⟨_,{O with a:={O.a with drawn:=O.a.drawn+1}},#[],DW,⟨⟨n,n,ai,Z,N⟩,.nil⟩,?_⟩;simp only[Region.schedule,aF,Bool.true_or,dH];have W:kg (Array.replicate all.toArray.size m)=λ_=>m:=by funext e;simp[kg,hk,wT];split<;>simp
 refine v.eO y (dM:=n) (cE:=b) (λk z aO ax ar aw aB s ah=>?_) all.toArray.size au _ M E E ?_ ?_ _ aR ?_ M M _
 .refine aE k z ar aw aO ax aB s aS aJ aA av _ y ?_ λa4 a3 aP az aN f3 w a8=>U .normal _ _ aP az aN f3 w (ah.trans a8);grind[nS.iH]
 .intro e _ bp;simp[hk,wT]at bp;split at bp<;>simp at bp
 .exact E4
 rw[W,aC];have aq:=H.mono (N.tooU ai) ai.len;refine⟨aq.size,aq.defers,λo=>?_⟩;unfold gx;cases a0:idx o with
 |none=>exact aq.aH o
 |some i=>
  simp only;rw[bm]
  .exact aq.aH o
  exact wm
def dx.to{o:Type}{s:ι->z}{b:ι->p an}{u:o->z}{l:o->p an}(A:dx r D all t F n s b)(E:∀d,∃e,s d=u e/\b d=l e):dx r D all t F n u l:=by intro O w y j x e g v C a i k B;refine A O w y j x e g v C a i k λd S Q K M N=>?_;obtain⟨R,I,J⟩:=E d;grind
def aT.tocD{d:Type}{X}{A:d->z}{y:d->p an}(J:aT r D all t F n X ao)(o:d)(e:X=A o)(g:ao=y o):dx r D all t F n A y:=by subst e g;exactλM C I k E s b B K a j l i=>J M C I k E s b B K a j l λN x u v w=>i o N x u v w
end
section
variable {r:ai P}
theorem dx.a1{C:ι->z}{d:ι->p an}(Q:t.guard=q)(M:∀g i,bb n g->(∀E,bx n g (i E) (bF F E))->∃(e:ι)(b:a5)(k:Z),(ac i t).run P g.a=.ok (.value k) b.a/\bx (d e) b k (C e)/\bb (d e) b/\cN n g (d e) b/\ds g ((ac i t).events P g.a #[])):dx r D all t F n C d:=by intro g I K j S U J R T y w x v;refine ri w x (iV Q) λO o=>?_;have l:=j.rely o;obtain⟨e,b,k,s,u,B,A,N⟩:=M O I.eval l (eJ (K.rely o j));exact⟨_,b,k,s,.inl a,⟨⟨n,d e,l,B,A⟩,N⟩,v e k b u B (o.aR.trans (A.tooU l))⟩
def dx.dg{l}(u:aT r D all t F n l ao):dx r D all t F n (λ_:Unit=>l) (λ_=>ao):=
 λx o s g p w b k v a e i d=>u x o s g p w b k v a e i λy j=>d () y j
def aT.aP{l}(b:a0 P t (bF F) n l ao)(a:t.guard=q):aT r D all t F n l ao:=.a1 (λ_ _ _ _=>iV a) b
def aT.eval{l}(aQ:bn P ad)(a:a8 r CT)(d:hx ad CT bg all F n t=h (l,q,cf))(b:U cf):aT r D all t F n l n:=ee aQ a d b
def aT.y{l}(aQ:bn P ad:=by exact bd)(iL:a8 r CT:=by first|assumption|exact a8.nil)(u:hx ad CT [] all F n t=h (l,q,[]):=by rfl):aT r D all t F n l n:=ee aQ iL u v
def q0(j:ai P)(i:Nat)(a:p ap)(g:bH)(d:p an)(e:Nat->z)(pre:Nat->Bool):p ap->Nat->Prop
 |[],_=>True
 |k::l,b=>(match pre b with|true=>aT j i a k (dy a g e b) d (e b) d|false=>True)/\q0 j i a g d e pre l (b+1)
def q1(j:ai P)(i:Nat)(a:p ap)(g:bH)(d:p an)(e:Nat->z)(k:Nat):p ap->Nat->Prop
 |[],_=>True
 |l::n,b=>(match af b k with|true=>True|false=>aT j i a l (dy a g e b) d (e b) d)/\q1 j i a g d e k n (b+1)
theorem q0.get{i:Nat->z}{pre:Nat->Bool}:∀{j:p ap}{d:Nat},q0 r D all F n i pre j d->∀(b:Nat)e,j[b]?=h e->pre (d+b)=f->aT r D all e (dy all F i (d+b)) n (i (d+b)) n
 |[],_,_,b,e,g=>by grind
 |l::o,d,g,0,e,a=>λx=>by simp at a;subst a;have k:=g.1;grind
 |l::o,d,g,b+1,e,a=>λx=>by have:=q0.get g.2 b e M M;grind
theorem q1.get{i:Nat->z}{A}:∀{j:p ap}{d:Nat},q1 r D all F n i A j d->∀(b:Nat)e,j[b]?=h e->d+b≠A->aT r D all e (dy all F i (d+b)) n (i (d+b)) n
 |[],_,_,b,e,g=>by grind
 |l::o,d,g,0,e,a=>λx=>by simp at a;subst a;have k:=g.1;simp only[j9]at x;grind[Nat.eq_of_beq_eq_true]
 |l::o,d,g,b+1,e,a=>λx=>by have:=q1.get g.2 b e M y;grind
def kK(pre:Nat->Bool)(d:Nat->z)(e:ι->Nat->z)(b:ι)(a:Nat):z:=match pre a with|true=>d a|false=>e b a
def Dh{s}{pre:Nat->Bool}{l:Nat->z}{k:ι->Nat->z}{u:ι->p an}{bq:ι->(Nat->Bool)->p an}(R:pre A=m)(T:n6 pre A all 0=f)(same:∀d b,pre b=f->k d b=l b)(C:∀b g,all[b]?=h g->pre b=f->aT r D all g (dy all F l b) n (l b) n)(qP:∀d (z:Nat->Bool) b g,all[b]?=h g->b≠A->b<s->z b=m->(∀e w,all[e]?=h w->z e=f->∀v∈c5 w.after.toList,z v=f)->aT r D all g (dy all F (k d) b) (bq d z) (k d b) (bq d (dk b z)))(B:∀g,all[A]?=h g->dx r D all g (dy all F l A) n (λd=>k d A) u)(Q:∀d (z:Nat->Bool),(∀b,z b=f->pre b=f)->u d=bq d (dk A z)):
  ∀j (z:Nat->Bool) b g,(j.isSome=z A/\(j=q->∀b,z b=f->pre b=f))->all[b]?=h g->b<s->z b=m->(∀v∈c5 g.after.toList,z v=f)->(∀d w,all[d]?=h w->z d=f->∀v∈c5 w.after.toList,z v=f) ->
   dx r D all g (dy all F (j.elim l k) b) (j.elim n λd=>bq d z) (λK:{E:Option ι // (∀d,z d=f->E.elim l k d=j.elim l k d)/\(E.isSome=dk b z A/\(E=q->∀e,dk b z e=f->pre e=f))}=>K.1.elim l k b) (λK=>K.1.elim n λd=>bq d (dk b z)):=by
 intro j z b g N t y x J o;have U:∀{e},dk b z e=f->e=b∨z e=f:=λ{e} i=>by unfold dk at i;grind[Nat.eq_of_beq_eq_true]
 have S:∀{e},e≠b->dk b z e=z e:=λ{e} i=>by unfold dk;grind[Nat.eq_of_beq_eq_true]
 by_cases M:b=A
 .subst M;cases j with
  |some d=>grind
  |none=>
   refine(B g t).to λd=>⟨⟨h d,λe i=>same d e (N.2 a e i),?_,λI=>by cases I⟩,a,Q d z (N.2 a)⟩
   unfold dk;grind[Nat.beq_refl]
 cases j with
 |none=>
  have O:pre b=f:=by grind[Hu]
  exact(C b g t O).tocD ⟨q,λ_ _=>rfl,by grind,λ_ e i=>by grind⟩ a a
 |some d=>exact(qP d z b g t M y x o).tocD ⟨h d,λ_ _=>rfl,by grind,λI=>by cases I⟩ rfl rfl
def yD{s}{pre:Nat->Bool}{b:Option ι}{z:Nat->Bool}(i:b.isSome=z A/\(b=q->∀a,z a=f->pre a=f))(e:A<s)(g:∀a,a<s->z a=f):∃d,b=h d:=by
 cases b with
 |some d=>grind
 |none=>grind
def g.df(O:P.follows Departure.mixedOrders=f)(A)(pre:Nat->Bool)(s:Nat->z)(v:ι->Nat->z)(d:ι->p an){id}(y:kM aC.toList=f)(B:n1 aC.toList 0=f)(C:n' D aC.toList=f)(o:Nat.blt A (c aC.toList)=f)(E:pre A=m)(I:n6 pre A aC.toList 0=f)(t:q0 r D aC.toList F n s pre aC.toList 0)(qP:∀b,q1 r D aC.toList F (d b) (kK pre s v b) A aC.toList 0)(afd:dx r D aC.toList (aC.toList.getD A en) (dy aC.toList F s A) n (λb=>kK pre s v b A) d)(N:∀b,g r D be ar .normal (ng aC.toList F (kK pre s v b)) (d b)):g r D be (.code (.region id aC f)::ar) .normal F n:=by
 have o:=e' o;have:=bY.reg (r:=r) (D:=D) (F:=F) (n:=n) O (all:=aC.toList) (c aC.toList) (λi:Option ι=>i.elim s (kK pre s v)) (λi _=>i.elim n d) (λi z=>i.isSome=z A/\(i=q->∀e,z e=f->pre e=f)) q ⟨rfl,λ_ _ J=>by cases J⟩ a y B C (bC _)
  (λe j k=>absurd k (nX.2 j)) (λi z _ _ e j k=>absurd k (nX.2 j))
  (Dh (bq:=λb _=>d b) E I (λb e w=>by simp only[kK,w]) (λe u l w=>by have:=t.get e u l M;grind) (λb z e u l x _ _ _=>by have:=(qP b).get e u l M;grind)
   (λu K=>by grind) (λ_ _ _=>rfl))
  (aM:=g r D be ar) (λi z Q R=>by obtain⟨b,rfl⟩:=yD Q o R;rw[ss];exact .nil (N b)) id
 exact tR
end
section
variable {r:ai P}
def v_(a:p ap)(b:Nat):p Nat->Bool
 |[]=>m
 |d::e=>match ed b (c5 (a.getD d en).after.toList)with|true=>f|false=>v_ a b e
def M3{all}{e}:∀{i:p Nat},v_ all e i=f->∃b,b∈i/\ed e (c5 (all.getD b en).after.toList)=f
 |[],a=>by cases a
 |b::l,a=>by
  simp only[v_]at a;cases g:ed e (c5 (all.getD b en).after.toList)with
  |true=>exact⟨b,by simp,g⟩
  |false=>
   simp only[g]at a;obtain⟨k,j,d⟩:=M3 a;exact⟨k,by simp[j],d⟩
def uy(a:p ap):Nat->p Nat->Bool
 |0,_=>f
 |d+1,b=>match ed d b with
  |true=>uy a d b
  |false=>match v_ a d b with|true=>uy a d b|false=>m
def AG{all}:∀{d:Nat}{e:p Nat},uy all d e=f->∀a,a<d->ed a e=f∨∃g,ed g e=f/\ed a (c5 (all.getD g en).after.toList)=f
 |0,_,_,a,l=>by omega
 |d+1,e,b,a,l=>by
  simp[uy]at b;cases j:ed d e with
  |true=>
   simp[j]at b;by_cases k:a=d
   .subst k;exact .inl j
   exact AG b a y
  |false=>
   simp[j]at b;cases i:v_ all d e with
   |false=>simp[i]at b
   |true=>
    simp[i]at b;by_cases k:a=d
    .subst k;obtain⟨g,k1,n⟩:=M3 i;exact .inr ⟨g,vo k1,n⟩
    exact AG b a y
def g.hG(G:P.follows Departure.mixedOrders=f)(A last)(pre:Nat->Bool)(s:Nat->z)(v:ι->Nat->z)(k i:ι->p an){id}(ab:kM aC.toList=f)(ad:n1 aC.toList 0=f)(ah:n' D aC.toList=f)(x:Nat.blt A (c aC.toList)=f)(ak:pre A=m)(au:n6 pre A aC.toList 0=f)(aa:af (last+1) (c aC.toList)=f)(V:uy aC.toList last (c5 (aC.toList.getD last en).after.toList)=f)(ai:pre last=m)(av:af last A=m)(J:q0 r D aC.toList F n s pre aC.toList 0)(qP:∀a,q1 r D aC.toList F (k a) (kK pre s v a) A aC.toList.dropLast 0)(u:dx r D aC.toList (aC.toList.getD A en) (dy aC.toList F s A) n (λa=>kK pre s v a A) k)(I:∀a,aT r D aC.toList (aC.toList.getD last en) (dy aC.toList F (kK pre s v a) last) (k a) (v a last) (i a))(o:∀a,g r D be ar .normal (ng aC.toList F (kK pre s v a)) (i a)):g r D be (.code (.region id aC f)::ar) .normal F n:=by
 have ag:=di aa;have aw:last≠A:=by grind[Nat.beq_refl]
 have x:=e' x;have:=bY.reg (r:=r) (D:=D) (F:=F) (n:=n) G (all:=aC.toList) (c aC.toList) (λt:Option ι=>t.elim s (kK pre s v)) (λt z=>t.elim n λa=>match z last with|true=>i a|false=>k a) (λt z=>t.isSome=z A/\(t=q->∀e,z e=f->pre e=f)) q ⟨rfl,λ_ _ K=>by cases K⟩ rfl ab ad ah (bC _)
  (λe b j=>absurd j (nX.2 b)) (λt z _ _ e b j=>absurd j (nX.2 b))
  (Dh (bq:=λa z=>match z last with|true=>i a|false=>k a) ak au (λa e O=>by simp[kK,O]) (λe B l O=>by have:=J.get e B l (by rwa [cV]);rwa [cV]at this)
   (λa z e B l Y X E w=>by
    by_cases ao:e=last
    .subst ao;have b:=I a;rw[show aC.toList.getD e en=B by simp[al,l]]at b;simp[E,dk,sx];rw[show kK pre s v a e=v a e by simp[kK,ai]];exact b
    .have N:=(cO.1 l).1;have aj:aC.toList.dropLast[e]?=h B:=M;have b:=(qP a).get e B aj (by rwa [cV]);rw[cV]at b;have Q:af last e=m:=tZ;have C:z last=m:=by
      cases C:z last with
      |false=>rfl
      |true=>
       have W:=bI (l:=aC.toList) (by omega:last<c aC.toList);have Z:∀o T,aC.toList[o]?=h T->aC.toList.getD o en=T:=λo T K=>by simp[al,K]
       rw[Z _ _ W]at V;rcases AG V e y with j|⟨o,j,U⟩
       .grind [qB]
       have ae:=w last _ W C o (qB j);cases aq:aC.toList[o]? with
       |none=>rw[show aC.toList.getD o en=en by simp[al,aq]]at U;simp[en,c5,ed]at U
       |some ok=>
        grind[qB]
     simp[dk,Q,C];exact b)
   (λB R=>by rw[show aC.toList.getD A en=B by simp[al,R]]at u;exact u)
   (λa z S=>by
    have C:z last=m:=M
    simp[dk,av,C]))
  (aM:=g r D be ar) (λt z H S=>by
   obtain⟨a,rfl⟩:=yD H x S;rw[ss];simp[Option.elim,S last y]
   exact .nil (o a)) id
 exact tR
end
def jd(a:bE):Z:=.string ⟨a.toArray⟩
def Sb{a}{b}(d:a.data.toList=b):Value.string a=jd b:=by subst d;simp[jd]
theorem D_{a}(d:Rd bB aa (.V a)):aa=jd a/\dW aa=f:=by
 cases d with
 |V b _=>exact⟨Sb b,rfl⟩
section
variable {r:ai P}{l:Nat->z}{bq:(Nat->Bool)->p an}
def nb:p ap->p (p Bool)->p (p Bool)
 |[],x=>x
 |t::a',x=>d (lI x (c5 t.after.toList)) λs=>nb a' (x++[s])
 where d:p Bool->(p Bool->p (p Bool))->p (p Bool)
 |[],bc=>bc []
 |true::a',bc=>d a' λa'=>bc (f::a')
 |false::a',bc=>d a' λa'=>bc (m::a')
theorem yb:∀d(a:p Bool->p (p Bool)),nb.d d a=a d
 |[],a=>rfl
 |true::b,a=>by simp[nb.d];rw[yb b]
 |false::b,a=>by simp[nb.d];rw[yb b]
def Ht{a:p ap}{z:Nat->Bool}(r:∀(b:Nat)d,a[b]?=h d->z b=f->∀i∈c5 d.after.toList,z i=f):
  ∀l e,(∀k,l[k]?=a[c e+k]?)->(∀(b:Nat) g,e[b]?=h g->∀d,a[b]?=h d->(∀i∈c5 d.after.toList,z i=f)->∀j,gl g j=f->z j=f) ->
   ∀(b:Nat) (g:p Bool),(nb l e)[b]?=h g->∀d,a[b]?=h d->(∀i∈c5 d.after.toList,z i=f)->∀j,gl g j=f->z j=f
 |[],e,_,o=>o
 |d::l,e,n,o=>by
  simp[nb];rw[yb];refine Ht r l _ (λk=>?_) ?_
  .have:=n (k+1);grind
  intro b g s;have t:=n 0;simp[m4,j9]at t;rcases Nat.lt_trichotomy b (c e) with v|rfl|u
  .grind
  .rw[hl (bC _)]at s;grind[BG]
  grind
def eh(a:p ap)(d e:Nat):Bool:=match(nb a [])[d]? with|some b=>gl b e|none=>m
def AU{z:Nat->Bool}(k:∀(a:Nat)b,all[a]?=h b->z a=f->∀g∈c5 b.after.toList,z g=f):∀d b,all[d]?=h b->(∀g∈c5 b.after.toList,z g=f)->∀a,eh all d a=f->z a=f:=by
 intro d b i j a e;unfold eh at e;split at e
 .rename_i s l;exact Ht k all [] E E d s l b i j a e
 grind
def F1{z:Nat->Bool}(l:∀(a:Nat)k,all[a]?=h k->z a=f->∀n∈c5 k.after.toList,z n=f)(p:z e=m):∀a,(a=e∨eh all a e=f)->z a=m:=by
 intro a j;rcases j with rfl|j
 .exact p
 cases o:z a with
 |false=>rfl
 |true=>
  have b:∃d,all[a]?=h d:=by
   cases b:all[a]? with
   |some d=>grind
   |none=>
    exfalso;have r:c (nb all [])=c all:=by
     have:∀g i,c (nb g i)=c i+c g:=by
      intro g;induction g with
      |nil=>intro i;simp[nb]
      |cons k g s=>intro i;simp[nb];grind[yb]
     grind
    unfold eh at j;grind
  obtain⟨d,b⟩:=b;have:=AU l a d b (l a d b o) e j;grind
def cn(k:ai P)(j:Nat)(a:p ap)(i:bH)(g:Nat->z)(e:(Nat->Bool)->p an)(b:Nat)(l:ap):Prop:=
 ∀z:Nat->Bool,(∀d,eh a b d=f->z d=f)->(∀d,(d=b∨eh a d b=f)->z d=m)->aT k j a l (dy a i g b) (e z) (g b) (e (dk b z))
def t7{P}(g:ai P)(d:Nat)(a:p ap)(b:bH)(j:Nat->z)(e:(Nat->Bool)->p an):p ap->Nat->Prop
 |[],_=>True
 |k::l,i=>cn g d a b j e i k/\t7 g d a b j e l (i+1)
theorem t7.get{all}:∀{i:p ap}{g:Nat},t7 r D all F l bq i g->∀d b,i[d]?=h b->cn r D all F l bq (g+d) b
 |[],_,_,d,b,e=>by grind
 |j::k,g,e,0,b,a=>by simp at a;subst a;exact e.1
 |j::k,g,e,d+1,b,a=>by have:=t7.get e.2 d b M;grind
def g.cx{id}(B:P.follows Departure.mixedOrders=f)(l:Nat->z)(k:(Nat->Bool)->p an)(C:k (λ_=>m)=n)(u:kM aC.toList=f)(w:n1 aC.toList 0=f)(x:n' D aC.toList=f)(j:t7 r D aC.toList F l k aC.toList 0)(E:∀z,(∀e,e<c aC.toList->z e=f)->g r D be ar .normal (ng aC.toList F l) (k z)):g r D be (.code (.region id aC f)::ar) .normal F n:=by
 have:=bY.reg (r:=r) (D:=D) (F:=F) (n:=n) B (all:=aC.toList) (c aC.toList) (λ_:Unit=>l) (λ_=>k) (λ_ _=>True) () v C u w x (bC _)
  (λe b d=>absurd d (nX.2 b)) (λs z _ _ e b d=>absurd d (nX.2 b))
  (λs z e t _ i _ A y o=>by have b:=j.get e t i;rw[cV]at b;exact(b z (AU o e t i y) (F1 o A)).tocD ⟨(),λ_ _=>rfl,v⟩ a a)
  (aM:=g r D be ar) (λs z _ I=>by rw[ss];exact .nil (E z I)) id
 exact tR
end
section
variable {r:ai P}{l:Nat->z}{i:Bool->Bool->Bool->p an}{C j ae:Nat}
abbrev lP(e:Bool->Bool->Bool->p an)(d a b:Nat):(Nat->Bool)->p an:=λz=>e (z d) (z a) (z b)
def mR{z:Nat->Bool}(a:af w e=m):dk e z w=z w:=by simp only[dk,a]
def zt{z:Nat->Bool}:dk e z e=f:=zU
def cn.eJ(a:af C e=m)(b:af j e=m)(n:af ae e=m)(o:∀d g k,aT r D all t (dy all F l e) (i d g k) (l e) (i d g k)):cn r D all F l (lP i C j ae) e t:=by intro z _ _;show aT r D all t _ (i (z C) (z j) (z ae)) _ (i (dk e z C) (dk e z j) (dk e z ae));rw[mR a,mR b,mR n];exact o _ _ _
def cn.dt(aQ:bn P ad:=by exact bd)(iL:a8 r CT:=by first|assumption|exact a8.nil)(u:∀x s I,hx ad CT [] all (dy all F l e) (i x s I) t=h (l e,q,cf):=by intro x s I;cases x<;>cases s<;>cases I<;>rfl)(cS:af C e=m:=by rfl)(dp:af j e=m:=by rfl)(aj:af ae e=m:=by rfl)(cv:U cf:=by simp only[U,a9];omega):cn r D all F l (lP i C j ae) e t:=.eJ cS dp aj λx s I=>aT.eval aQ iL (u x s I) cv
def cn.aE(aQ:bn P ad:=by exact bd)(iL:a8 r CT:=by first|assumption|exact a8.nil)(u:∀x s I,hx ad CT [] all (dy all F l e) (i x s I) t=h (l e,q,[]):=by intro x s I;cases x<;>cases s<;>cases I<;>rfl)(cS:af C e=m:=by rfl)(dp:af j e=m:=by rfl)(aj:af ae e=m:=by rfl):cn r D all F l (lP i C j ae) e t:=.dt (cf:=[]) aQ iL u cS dp aj v
def cn.ey(d:af C e=f)(s:af C e=f)(b:af j e=m)(n:af ae e=m)(p:∀g k,aT r D all t (dy all F l e) (i m g k) (l e) (i f g k)):cn r D all F l (lP i C j ae) e t:=by intro z _ u;have o:=di d;subst o;show aT r D all t _ (i (z C) (z j) (z ae)) _ (i (dk C z C) (dk C z j) (dk C z ae));rw[zt,mR b,mR n,u C (.inl a)];exact p _ _
def cn.ez(g:af j e=f)(b:af C e=m)(s:af ae e=m)(d:eh all ae e=f)(u:af j e=f)(p:∀k,aT r D all t (dy all F l e) (i k m m) (l e) (i k f m)):cn r D all F l (lP i C j ae) e t:=by intro z _ n;have o:=di g;subst o;show aT r D all t _ (i (z C) (z j) (z ae)) _ (i (dk j z C) (dk j z j) (dk j z ae));rw[zt,mR b,mR s,n j (.inl a),n ae (.inr d)];exact p _
def cn.eA(n:af ae e=f)(b:af C e=m)(d:af j e=m)(k:eh all e j=f)(u:af ae e=f)(s:∀o,aT r D all t (dy all F l e) (i o f m) (l e) (i o f f)):cn r D all F l (lP i C j ae) e t:=by intro z aQ g;have p:=di n;subst p;show aT r D all t _ (i (z C) (z j) (z ae)) _ (i (dk ae z C) (dk ae z j) (dk ae z ae));rw[zt,mR b,mR d,g ae (.inl a),aQ j k];exact s _
end
def w5(a:Nat->Bool):p Nat->Bool
 |[]=>m
 |b::d=>match a b with|true=>f|false=>w5 a d
def F9{e:Nat->Bool}:∀{d:p Nat},w5 e d=f->∃b∈d,e b=f
 |[],a=>by cases a
 |b::k,a=>by
  simp[w5]at a;split at a
  .grind
  obtain⟨j,g,i⟩:=F9 a;grind
def vK(a:p ap)(d:Nat):Nat->p Nat->Bool
 |0,b=>ed d b
 |g+1,b=>match ed d b with|true=>f|false=>w5 (λe=>vK a d g (c5 (a.getD e en).after.toList)) b
def yT{all}{i}{L:Nat->Prop}(j:∀k,k<c all->L k->∀a∈c5 (all.getD k en).after.toList,L a):∀{l:Nat}{d:p Nat},vK all i l d=f->(∀a∈d,L a)->L i
 |0,d,b,e=>e i (qB b)
 |l+1,d,b,e=>by
  simp only[vK]at b;split at b
  .grind [qB]
  obtain⟨a,r,g⟩:=F9 b;rcases dY a (c all) with n|n
  .exact yT j g (j a n (e a r))
  have:all.getD a en=en:=M;rw[this]at g;exact yT j g (λs o=>by simp[en,c5]at o)
def uB(a:p ap)(b:Nat)(d:p Nat):Nat->Bool
 |0=>f
 |e+1=>match vK a e b d with|true=>uB a b d e|false=>m
def AV{all}{i}{d}:∀{b:Nat},uB all i d b=f->∀a,a<b->vK all a i d=f
 |0,_,a,g=>by omega
 |b+1,e,a,g=>by
  simp[uB]at e;split at e
  .rename_i j;by_cases k:a=b
   .grind
   exact AV e a y
  grind
def uS(a:p ap)(d:Nat):Nat->Nat->Bool
 |_,0=>f
 |b,e+1=>match uB a d (c5 (a.getD b en).after.toList) b with|true=>uS a d (b+1) e|false=>m
def BT{all}{g}:∀{b e:Nat},uS all g b e=f->∀a,b<=a->a<b+e->uB all g (c5 (all.getD a en).after.toList) a=f
 |b,0,_,a,i,j=>by omega
 |b,e+1,d,a,i,j=>by
  simp[uS]at d;split at d
  .rename_i s;by_cases k:a=b
   .grind
   exact BT d a y y
  grind
section
variable {r:ai P}
def tf(b:Nat)(pre:Nat->Bool)(e:Nat->z)(g:ι->Nat->z)(d:ι)(a:Nat):z:=match Nat.blt a b with|true=>kK pre e g d a|false=>.any
def g.eF(ad:P.follows Departure.mixedOrders=f)(A s U)(pre:Nat->Bool)(k:Nat->z)(x:ι->Nat->z)(e:ι->p an){id}(S:kM aC.toList=f)(T:n1 aC.toList 0=f)(V:n' D aC.toList=f)(Z:pre A=m)(ab:n6 pre A aC.toList 0=f)(R:Nat.blt s (c aC.toList)=f)(i:Nat.blt A s=f)(Y:∀b,pre b=f->b<s)(l:uS aC.toList U s (c aC.toList-s)=f)(w:q0 r D aC.toList F n k pre aC.toList 0)(qP:∀d,q1 r D aC.toList F (e d) (tf s pre k x d) A (aC.toList.take s) 0)(Q:dx r D aC.toList (aC.toList.getD A en) (dy aC.toList F k A) n (λd=>tf s pre k x d A) e)(I:∀d,g r D be (.ae aC.toList (aC.toList.drop s)::ar) .normal (ng aC.toList F (tf s pre k x d)) (e d)):g r D be (.code (.region id aC f)::ar) .normal F n:=by
 have R:=e' R;have i:=e' i;have:=bY.reg (r:=r) (D:=D) (F:=F) (n:=n) ad (all:=aC.toList) s (λj:Option ι=>j.elim k (tf s pre k x)) (λj _=>j.elim n e) (λj z=>j.isSome=z A/\(j=q->∀b,z b=f->pre b=f)) q ⟨rfl,λ_ _ W=>by cases W⟩ a S T V y
  (λb t B L ae o I E=>yT ae (AV (BT l b t y) I E) o)
  (λj z J K b t B=>by
   obtain⟨d,rfl⟩:=yD J i K;have:Nat.blt b s=m:=by
    cases C:Nat.blt b s with
    |false=>rfl
    |true=>have:=e' C;omega
   simp[Option.elim,tf,this])
  (Dh (bq:=λd _=>e d) Z ab (λd b o=>by have:Nat.blt b s=f:=Ap (Y b o);simp[tf,this,kK,o])
   (λb v u o=>by have:=w.get b v u M;grind)
   (λd z b v u O N _ _=>by
    have aa:(aC.toList.take s)[b]?=h v:=M
    have:=(qP d).get b v aa M;grind)
   (λv X=>by grind) (λ_ _ _=>rfl))
  (aM:=g r D be ar) (λj z J K=>by obtain⟨d,rfl⟩:=yD J i K;exact I d) id
 exact tR
end
def eb(b:Nat)(e:av)(i:Z):Z->(Nat->Option Obj)->Prop:=λg a=>g=.pointer (h ⟨b,0,q⟩)/\a b=h (.cells #[i] e (0,0))/\∀d,d≠b->a d=q
section
variable {r:ai P}
def aT.gp(aQ:bn P ad){o C}(d){e}(an:oH all F t=f)(w:t.op=.load o (.global C))(J:c6 d n=h (.J (eb C W aa)))(s:bW ad o=h e)(ab:dW aa=f)(S:g' e [.c (.val aa)]=h (.aq (.c (.val aa)))):
  aT r D all t F n (ax (.val aa)) n:=by
 intro b T ag I j av ah au aw Q E K A;refine ri E K (jZ an _ _ _ ag) λi Y=>?_;have l:=I.rely Y;have aE:=ei J;have ao:d<c i.m:=by rw[l.len];grind
 have x:=bI ao;generalize i.m[d]=L at x;obtain⟨ae,⟨ai,y,aq⟩,H,Z,ar⟩:=l.box d _ L aE x;have z:=H C _ y;have G:C∈L.al:=(Z C).2 M
 have X:T.eval (.global C)=.pointer (h ⟨C,0,q⟩):=rfl;have N:bM n i [aa] [.c (.val aa)]:=⟨Rd.val ab,v⟩;obtain⟨R,V,O⟩:=tu (b:=i) (n:=n) (P:=P) (aQ o e s) (j:=C) (off:=0) (B:=[aa]) (ah:=[.c (.val aa)]) (aj:=.aq (.c (.val aa))) (λU az u=>by
  simp only[aN,z]
  grind) N S
 refine⟨.value R,i,R,by simp[ac,w,X,Instr.loadAt,Instr.sureAddr,V],.inl a,⟨⟨n,n,l,l,.refl _ _⟩,?_⟩,A R i O l Y.aR⟩;intro p g;have ak:p∈(loadVar o ⟨C,0,q⟩).events P i.a #[]:=by
  have aj:ac T.eval t=(do pure (.value (<-loadVar o ⟨C,0,q⟩))):=by simp[ac,w,X,Instr.loadAt,Instr.sureAddr]
  rw[aj]at g;simpa[V]using g
 obtain⟨U,u,rfl⟩:=o7 (aQ o e s) (k:=1) (λU u=>⟨aa,by simp only[aN,z];grind⟩) (by have:=r3 S;grind) p ak;exact qh (b8 x) G
end
section
variable {r:ai P}
def t'{P}(j:ai P)(i:Nat)(a:p ap)(g:bH)(b:p an)(e:Nat->z):p z->p ap->Nat->Prop
 |_::n,l::k,d=>aT j i a l (dy a g e d) b (e d) b/\t' j i a g b e n k (d+1)
 |[],_,_=>True
 |_::_,[],_=>False
theorem t'.get{all}{l:Nat->z}:∀{j:p z}{k:p ap}{i:Nat},t' r D all F n l j k i->∀a e,k[a]?=h e->a<c j->aT r D all e (dy all F l (i+a)) n (l (i+a)) n
 |[],_,_,_,a,e,_,b=>absurd b (iC _)
 |_::j,[],_,g,a,e,_,b=>g.elim
 |o::j,s::k,i,g,0,e,d,_=>by cases d;exact g.1
 |o::j,s::k,i,g,a+1,e,d,b=>by have:=t'.get g.2 a e d M;grind
def g.gg(C:P.follows Departure.mixedOrders=f)(ag)(s){id}(w:kM aC.toList=f)(x:n1 aC.toList 0=f)(A:n' D aC.toList=f)(j:ay (c ag) (c aC.toList)=f)(e:uS aC.toList s (c ag) (c aC.toList-c ag)=f)(i:t' r D aC.toList F n (λd=>ag.getD d .any) ag aC.toList 0)(t:g r D be (.ae aC.toList (aC.toList.drop (c ag))::ar) .normal (ng aC.toList F λd=>ag.getD d .any) n):g r D be (.code (.region id aC f)::ar) .normal F n:=by
 have j:=e' j;have:=bY.reg (r:=r) (D:=D) (F:=F) (n:=n) C (all:=aC.toList) (c ag) (λ_:Unit=>λd=>ag.getD d .any) (λ_ _=>n) (λ_ _=>True) () v a w x A j
  (λd b k L E B t o=>yT E (AV (BT e d b y) t o) B)
  (λu z _ _ d b k=>by grind)
  (λu z d I _ p l _ _ _=>by have b:=i.get d I p l;rw[cV]at b;exact b.tocD ⟨(),λ_ _=>rfl,v⟩ a a)
  (aM:=g r D be ar) (λu z _ _=>t) id
 exact tR
end
section
variable {r:ai P}
def pR{e:Type}(w:ai P)(v:Nat)(l:fq)(u:p ig)(t:e->Prop)(s:e->bH)(o:e->p an)(r:e->Nat)(x:Nat)(y:e):fq:=λn d i=>match n with
 |.normal=>∃j k,x<=k/\t j/\r j<r y/\ix d (s j)/\qw k (s j)=f/\∃a b,i=a++b/\c a=k/\(ki k a=f/\jO b=f)/\q4 a (o j)
 |n=>g w v l u n d i
def g.ht{B:Type}(aa)(A:B->Prop)(e:B->bH)(b7:B->p an)(Y:B->Nat)(l){dq}(av:iO F (e l)=h ab)(aC:U ab)(aJ:jk n (b7 l)=h dq)(ax:U dq)(aG:c n=aa)(aw:A l)(round:∀l,A l->g r D (pR r D be ar A e b7 Y aa l) [.code s] .normal (e l) (b7 l)):g r D be (.code (.loop s)::ar) .normal F n:=by
 intro ak x aE u j W R J b T;have w:=jN aJ ax;obtain⟨aQ,N,_⟩:=w ak u;refine w7 (λah d az=>∃X,A X/\bV D (b7 X) az (e X) d/\bb (b7 X) az/\dc n ak (b7 X) az/\Y X=ah) ?_ ?_ ⟨l,aw,(aE.le (eC av aC)).al w u,aQ,N.tooU u,a⟩
 .rintro k d az ⟨X,Q,O,C,I,aj⟩;exact N'
 rintro ah d az ⟨X,Q,O,C,I,rfl⟩ V;refine round X Q az d O C j (.inLoop s::W) R J b ?_;intro aj aM aq v K ai H t i;cases aj with
 |normal=>
  obtain⟨ao,aK,ag,aB,aI,aH,aS,o,Z,rfl,ae,⟨aR,au⟩,aN⟩:=ai;have G:=t.drop M;obtain⟨aP,ad,aL⟩:=aN _ G;have z:=H.le aH;have S:eT v (v.cut (c o)):=⟨rfl,λ_ _ _ aF=>aF,λ_ _ _=>rfl,t.mem,λj b=>b.imp id λ⟨L,aA,b⟩=>⟨L,hc aA,b⟩⟩
  refine .aV S (V K (v.cut (c o)) (Y ao) aI ⟨ao,aB,⟨z.size,z.defers.imp λ_ cS=>(cS.drop au).mono ad.ext,λaO=>aL _ _ ((z.aH aO).drop (vc M))⟩,aP,?_,a⟩);exact((I.trans i).drop y).trans (ad.tooU G)
 |_=>exact kG.cons (λ_ _=>rfl) E (T _ _ _ _ _ ai H t (I.trans i))
def g.fs{d:Type}{o}{i:d->Prop}{a:d->bH}{b:d->p an}{s:d->Nat}{l}{w}(k)(X){dq}(e:o<=k)(v:iO F (a X)=h ab)(z:U ab)(t:qw k (a X)=f)(x:vu k n=f)(j:jk (n.take k) (b X)=h dq)(A:U dq)(y:ki k (n.take k)=f)(B:i X)(u:s X<s l):
  g r D (pR r D be w i a b s o l) [] .normal F n:=
 ⟨X,k,e,B,u,eC v z,t,n.take k,n.drop k,(FV k n).symm,by grind[Nat.le_of_ble_eq_true,yF],⟨y,(yF x).2⟩,jN j A⟩
def g.fE{t:Type}{s}{k:t->Prop}{e:t->bH}{i:t->p an}{o:t->Nat}{l}{id}{x j y}(u:iK id x=q)(v:iK id j=h y)(z:g r D be y .normal F n):
  g r D (pR r D be j k e i o s l) (.code (.exit id)::x) .normal F n:=
 bY.mono (g.bt (O:=λa b=>pR r D be j k e i o s l .normal a b) u v z) λd a b A=>by
  have key:∀w d,g r D (λd a b=>match d with
    |.normal=>pR r D be j k e i o s l .normal a b
    |d=>g r D be j d a b) w d a b->g r D (pR r D be j k e i o s l) w d a b:=by
   have d:(λd a b=>match d with
    |.normal=>pR r D be j k e i o s l .normal a b
    |d=>g r D be j d a b)=pR r D be j k e i o s l:=by funext d a b;cases d<;>rfl
   grind
  exact key _ _ A
end
def c7(d:bH)(a:p Nat):bH:=a.map λb=>(b,look d b)
section
variable {r:ai P}
def g.dF{e:Type}(k)(aO)(d:e->Prop)(a:e->bH)(b:e->p an)(o:e->Nat)(l){dq}(j:iO F (c7 F aO++a l)=h ab)(t:U ab)(x:jk n (b l)=h dq)(u:U dq)(i:c n=k)(v:d l)(round:∀l,d l->g r D (me r D be ar d (λl=>c7 F aO++a l) b o k l) [.code s] .normal (c7 F aO++a l) (b l)):g r D be (.code (.loop s)::ar) .normal F n:=
 .aN k d (λl=>c7 F aO++a l) b o l j t x u i v round
end
section
variable {r:ai P}{l:Nat->z}{d:Bool->Bool->Bool->Bool->p an}{ae aj i C:Nat}
abbrev mv(g:Bool->Bool->Bool->Bool->p an)(b a e d:Nat):(Nat->Bool)->p an:=λz=>g (z b) (z a) (z e) (z d)
theorem nE{z:Nat->Bool}(a:af w e=m):dk e z w=z w:=by simp only[dk,a]
theorem v9{z:Nat->Bool}:dk e z e=f:=zU
def cn.jJ(k:af ae e=m)(n:af aj e=m)(s:af i e=m)(p:af C e=m)(o:∀a b g j,aT r D all t (dy all F l e) (d a b g j) (l e) (d a b g j)):cn r D all F l (mv d ae aj i C) e t:=by intro z _ _;grind[nE]
def cn.jK(aQ:bn P ad)(iL:a8 r CT)(cv:U cf)(u:∀x j s I,hx ad CT [] all (dy all F l e) (d x j s I) t=h (l e,q,cf):=by intro x j s I;cases x<;>cases j<;>cases s<;>cases I<;>rfl)(cS:af ae e=m:=by rfl)(dp:af aj e=m:=by rfl)(A:af i e=m:=by rfl)(w:af C e=m:=by rfl):cn r D all F l (mv d ae aj i C) e t:=.jJ cS dp A w λx j s I=>aT.eval aQ iL (u x j s I) cv
def cn.aY(aQ:bn P ad:=by exact bd)(iL:a8 r CT:=by first|assumption|exact a8.nil)(u:∀x j s I,hx ad CT [] all (dy all F l e) (d x j s I) t=h (l e,q,[]):=by intro x j s I;cases x<;>cases j<;>cases s<;>cases I<;>rfl)(cS:af ae e=m:=by rfl)(dp:af aj e=m:=by rfl)(A:af i e=m:=by rfl)(w:af C e=m:=by rfl):cn r D all F l (mv d ae aj i C) e t:=.jK (cf:=[]) aQ iL v u cS dp A w
def cn.ay(dp:af aj ae=m)(I:af i ae=m)(x:af C ae=m)(s:eh all aj ae=f)(e:eh all i ae=f)(j:eh all C ae=f)(u:aT r D all t (dy all F l ae) (d m m m m) (l ae) (d f m m m)):cn r D all F l (mv d ae aj i C) ae t:=zT
def cn.eP(a:af ae aj=m)(j:af i aj=m)(e:af C aj=m)(b:eh all aj ae=f)(n:eh all i aj=f)(g:eh all C aj=f)(k:aT r D all t (dy all F l aj) (d f m m m) (l aj) (d f f m m)):cn r D all F l (mv d ae aj i C) aj t:=zT
def cn.eR(a:af ae i=m)(b:af aj i=m)(j:af C i=m)(k:eh all i ae=f)(g:eh all i aj=f)(e:eh all C i=f)(n:aT r D all t (dy all F l i) (d f f m m) (l i) (d f f f m)):cn r D all F l (mv d ae aj i C) i t:=zT
def cn.eS(a:af ae C=m)(b:af aj C=m)(j:af i C=m)(k:eh all C ae=f)(g:eh all C aj=f)(e:eh all C i=f)(n:aT r D all t (dy all F l C) (d f f f m) (l C) (d f f f f)):cn r D all F l (mv d ae aj i C) C t:=zT
end
section
variable {ad:p (Nat×bv)}
def a0.jW(aQ:bn P ad){Q V}(ab:t.op=.slice o l (h Q) (h X) (h V)){G a4}(ag:bW ad o=h G)(L:G.desc=.slice W)(ah:bW ad W=h a4){eP}{r d p}{e w A}(ak:∀ae s,bx n ae s (η l)->Rd ae.u s (.S eP a4.size k T))(ai:η Q=ax (.int r e))(aj:η X=ax (.int d w))(aM:η V=ax (.int p A))(Z:0<=e)(aF:e<=w)(au:w<=A)(av:A<=k):
  a0 P t η n (ax (.S m a4.size (w.toNat-e.toNat) (fw e.toNat T))) n:=by
 refine .aZ λb I aw C=>?_;have U:=ak b _ (C l);have get:∀i S s,η i=ax (.int S s)->I i=.int S s:=λi S s z=>by have u:=C i;rw[z]at u;replace u:=b6 u;generalize I i=aA at u;cases u;rfl
 have O:=get Q r e ai;have N:=get X d w aj;have Y:=get V p A aM;obtain⟨aa,g,B,H,aC,aE,aG,a,az⟩:=U.b3;rw[H]at U;have K:=(aQ o G ag).run_underlying (Q:=b.a);rw[L]at K;have em:((A.toNat:Nat):Int)=A:=rb y;have aq:((w.toNat:Nat):Int)=w:=rb y;have v:(aX f k g (h (.int r e)) (h (.int d w)) (h (.int p A))).run P b.a=.ok (e.toNat,w.toNat,A.toNat) b.a:=by simp[aX,run_sliceBound (P:=P) b.a p A g _ y y,run_sliceBound (P:=P) b.a d w A.toNat _ y y,run_sliceBound (P:=P) b.a r e w.toNat _ Z y]
 have an:(aX f k g (h (.int r e)) (h (.int d w)) (h (.int p A))).events P b.a #[]=#[]:=by simp[aX,run_sliceBound (P:=P) b.a p A g _ y y,run_sliceBound (P:=P) b.a d w A.toNat _ y y,k' (P:=P) b.a p A g _ y y,k' (P:=P) b.a d w A.toNat _ y y,k' (P:=P) b.a r e w.toNat _ Z y]
 refine⟨.slice (if A.toNat=e.toNat then aa else aa.map (·.add (e.toNat*a4.size))) (w.toNat-e.toNat) (A.toNat-e.toNat),?_,?_,by simp[ac,ab,H,O,N,Y,Instr.sliceAt,K,Instr.slice,v,an]⟩
 .simp[ac,ab,H,O,N,Y,Instr.sliceAt,K,Instr.slice,v,(aQ W a4 ah).bf]
 cases U with
 |S ao F ar _ _ _ R M x D=>
  refine Rd.S ao (F+e.toNat*a4.size) (λi w=>ar (e.toNat+i) w) y y E (λi z=>R _ y) (λaB=>?_) (λi z w J j=>?_) (λi z w J j=>D _ y w J j)
  .rw[bm y,M y];simp[gM]
  have:=x (e.toNat+i) y w J j;grind
end
def iY(j:Z)(l:p Int):Z->(Nat->Option Obj)->Prop:=λn e=>n=j/\∃k a i,j=.map (h k)/\(∀g,e g=if g=k then h (.map a i)else q)/\MapKept.Stamped a i /\
 (∀d∈a.toList,∃b,d.key=.int .i64 b/\d.val=.bool f/\a7 .i64 b)/\∀b,b∈l↔∃d∈a.toList,d.key=.int .i64 b
structure Rt(n:p an)(b:a5)(j:Nat)(ae:Z)(d:p Int)(L:Loc)(a':Nat)(T:Array MapEntry)(s:Nat):Prop where
 b4:b.m[j]?=h L
 v:L.v=ae
 cb:ae=.map (h a')
 bC:MapKept.Stamped T s
 cv:∀aj∈T.toList,∃k,aj.key=.int .i64 k/\aj.val=.bool f/\a7 .i64 k
 mem:∀k,k∈d↔∃aj∈T.toList,aj.key=.int .i64 k
 heap:b.a.heap[a']?=h (.map T s)
 al:∀j,j∈L.al↔j=a'
def iY.open{ae}{d}(bO:bb n b)(o:n[j]?=h (.J (iY ae d))):∃L g a i,Rt n b j ae d L g a i:=by have e:j<c b.m:=hV;obtain⟨r,⟨k,g,a,i,l,w,s,u,p⟩,t,v,_⟩:=bO.box j _ _ o (bI e);exact⟨_,g,a,i,bI e,k,l,s,u,p,t g _ M,λj=>by grind⟩
section
variable {ad R bc:av}{cL:aA}{ae:Z}{d:p Int}{k:Int}
def JS{b:Array MapEntry}(g:∀a∈b.toList,∃d,a.key=.int .i64 d/\a.val=.bool f/\a7 .i64 d):∀a∈b.toList,MapKept.IsKey (.int .i64) a.key:=λa e=>by obtain⟨d,i,_⟩:=g a e;exact hp
def DI{ae}{a}(e:bx n b aa a)(d:a=cM ae):aa=ae:=by subst d;exact Rd.bj e
def Lp{k}{a}(e:bx n b aa a)(d:a=ax (.int .i64 k)):aa=.int .i64 k/\a7 .i64 k:=by subst d;have:=b6 e;generalize aa=g at this;cases this;exact bw
def a0.jQ(x:t.op=.lookup ad l X m)(aQ:P.underlying ad=h (.map R bc))(e:P.underlying R=h (.int .i64))(T:∀J,(zeroValue bc).run P J=.ok (.bool m) J)(D:n[j]?=h (.J (iY ae d)))(S:η l=cM ae)(z:η X=ax (.int .i64 k)):a0 P t η n (ax (.bool (d.contains k))) n:=by
 refine a0.du λp Z C s=>?_;obtain⟨L,u,A,ab,b⟩:=iY.open C D;have r:=(DI (s l) S).trans b.cb;obtain⟨O,G⟩:=Lp (s X) z;obtain⟨U,y⟩:=Jf (I:=.int .i64) (i:=.int .i64 k) rfl (JS b.cv);have B:h1 p ⟨.obj u,m,m⟩:=mu (b8 b.b4) ((b.al u).2 a);have key:∃g:Bool,(Instr.lookup ad (.map (h u)) (.int .i64 k) m).run P p.a=.ok (.bool g) p.a/\(Instr.lookup ad (.map (h u)) (.int .i64 k) m).events P p.a #[]=#[⟨.obj u,m,m⟩]/\g=d.contains k:=by
  cases U with
  |none=>
   obtain⟨o,v⟩:=J6 (ok:=m) aQ e b.heap y (λ_=>T p.a)
   exact⟨m,o,v,by
    symm;rw[<-p0,Av,b.mem]
    rintro⟨w,N,e⟩;exact y.db a w N e⟩
  |some F=>
   obtain⟨Y,g⟩:=F;obtain⟨o,v⟩:=J6 (ok:=m) (cL:=K) aQ e b.heap y (λx=>by cases x);obtain⟨w,V,W,aa⟩:=y.gH Y g rfl;have E:w∈A.toList:=M;obtain⟨_,_,H,_⟩:=b.cv w E;exact⟨f,o.trans (show Result.ok g p.a=_ by grind),v,by symm;rw[Av,b.mem];grind⟩
 obtain⟨g,o,v,Q⟩:=key;refine⟨.bool g,?_,by rw[<-Q];exact Rd.bool,?_⟩
 .simp only[ac,x,r,O,cI,o,c0,d6]
 simp only[ac,x,r,O,aH,o,v,aJ,Sem.events_pure];exact .aq B
def a0.jS(ag:t.op=.mapUpdate ad l X cL)(aQ:P.underlying ad=h (.map R bc))(D:P.underlying R=h (.int .i64))(F:n[j]?=h (.J (iY ae d)))(an:η l=cM ae)(ak:η X=ax (.int .i64 k))(aj:η cL=ax (.bool f)):a0 P t η n .any (n.set j (.J (iY ae (d++[k])))):=by
 intro r K C w;obtain⟨L,o,s,ab,e⟩:=iY.open C F;have A:=(DI (w l) an).trans e.cb;obtain⟨aa,az⟩:=Lp (w X) ak;have Z:K cL=.bool f:=by have:=w cL;rw[aj]at this;have:=b6 this;generalize K cL=Y at this;cases this;rfl
 obtain⟨aq,Q⟩:=Jf (I:=.int .i64) (i:=.int .i64 k) rfl (JS e.cv);have y:∀Y,h1 r ⟨.obj o,Y,m⟩:=λY=>mu (b8 e.b4) ((e.al o).2 a);have G:=(i_.1 e.heap).1;have key:∃b p,(Instr.mapUpdate ad (.map (h o)) (.int .i64 k) (.bool f)).run P r.a=.ok () {r.a with heap:=r.a.heap.setIfInBounds o (.map b p)}/\(Instr.mapUpdate ad (.map (h o)) (.int .i64 k) (.bool f)).events P r.a #[]=#[⟨.obj o,m,m⟩,⟨.obj o,f,m⟩] /\
   MapKept.Stamped b p/\(∀g∈b.toList,∃k,g.key=.int .i64 k/\g.val=.bool f/\a7 .i64 k)/\∀S,S∈d++[k]↔∃g∈b.toList,g.key=.int .i64 S:=by
  cases aq with
  |none=>
   obtain⟨x,J⟩:=MY (l:=.bool f) aQ D e.heap Q;refine⟨_,_,x,J,MapKept.stamped_push e.bC (Q.db a),λg O=>?_,λS=>?_⟩
   .rw[Array.toList_push,gk]at O;rcases O with O|O
    .exact e.cv g O
    grind
   rw[gk,e.mem,Array.toList_push];constructor
   .rintro(⟨g,v,B⟩|v)
    .grind
    simp_all
   grind
  |some W=>
   obtain⟨V,ar⟩:=W;obtain⟨g,v,B,aw⟩:=Q.gH V ar rfl;have U:g∈s.toList:=M;obtain⟨_,_,ai,_⟩:=e.cv g U;have au:s.modify V (λg=>{key:=.int .i64 k,val:=.bool f,born:=g.born})=s:=by
    apply Array.ext_getElem?;intro ah;rw[Aw];split
    .rename_i bp;subst bp;rw[v,<-B,<-ai];rfl
    simp
   obtain⟨x,J⟩:=MY (l:=.bool f) aQ D e.heap Q;refine⟨s,ab,x.trans (show Result.ok () {r.a with heap:=r.a.heap.setIfInBounds o (.map (s.modify V λg=>{key:=.int .i64 k,val:=.bool f,born:=g.born}) ab)}=_ by grind),J,e.bC,e.cv,λS=>?_⟩;rw[gk,e.mem];constructor
   .rintro(z|z)
    .exact z
    grind
   grind
 obtain⟨b,p,x,J,ao,H,aM⟩:=key;have N:=C.b_ (j2:=iY ae (d++[k])) (cm:=L) (bh:={r.a with heap:=r.a.heap.setIfInBounds o (.map b p)}) F e.b4 rfl E (λj _ u=>by show(r.a.heap.setIfInBounds o _)[j]?=_;rw[sy (by rintro rfl;exact u ((e.al o).2 rfl))]) (λj u=>.inl u)
  ⟨λj=>if j=o then h (.map b p)else q,⟨e.v,o,b,p,e.cb,λ_=>rfl,ao,H,aM⟩,λj av u=>by grind,λj=>by rw[e.al];by_cases g:j=o<;>simp[g]⟩ a a a
 have T:r.m.set j L=r.m:=by
  apply p4;intro ah;by_cases g:j=ah
  .subst g;rw[ij (cO.1 e.b4).1,e.b4]
  grind
 rw[T]at N;refine⟨.skip,_,?_,a,N.1,N.2,?_⟩
 .simp only[ac,ag,A,aa,Z,cI,x,c0,d6]
 simp only[ac,ag,A,aa,Z,aH,x,J,aJ,Sem.events_pure];exact .fh (y _) (y _)
end
section
variable {r:ai P}{ad:av}
def g.hX(o:t.op=.makeMap ad q)(x:t.guard=q)(y:fa D t.dst=f)(w:∀k,g r D be (.ae all br::ar) .normal (fS t.dst (cM k) F) (n++[.J (iY k [])])):g r D be (.ae all (t::br)::ar) .normal F n:=by
 refine g.cF (ι:=Z) (λk=>cM k) (λk=>n++[.J (iY k [])]) x y (λb A I e=>?_) w;let bh:au:={b.a with heap:=b.a.heap.push (.map #[] 0)}
 have B:bh.heap[b.a.heap.size]?=h (.map #[] 0):=M;have E:bh.heap.size=b.a.heap.size+1:=M;obtain⟨u,p⟩:=e.cY (cd:=b.u) (bh:=bh) M (λi d=>by grind) (λ_ _ _=>rfl) (λi d t z j=>by have:=e.block j;omega) rfl rfl rfl;obtain⟨v,s⟩:=u.b0 p rfl e (bU:=.J (iY (.map (h b.a.heap.size)) [])) (L:=⟨.map (h b.a.heap.size),[b.a.heap.size]⟩)
  ⟨λi=>if i=b.a.heap.size then h (.map #[] 0)else q,⟨rfl,_,#[],0,rfl,λ_=>rfl,MapKept.stamped_empty 0,λl J=>by grind,λC=>by simp⟩,λi t d=>by
   grind,λi=>by by_cases l:i=b.a.heap.size<;>simp[l],λi d t=>by
   simp at d;subst d;show b.u _ _=q;cases j:b.u b.a.heap.size t with
   |none=>rfl
   |some z=>have:=e.block j;omega⟩ (λi d=>by grind)
 refine⟨.map (h b.a.heap.size),.value (.map (h b.a.heap.size)),_,.map (h b.a.heap.size),?_,.inl a,Rd.val a,v,s,?_⟩
 .simp[ac,o,Instr.makeMap,run_newObj,bh]
 simp[ac,o,Instr.makeMap];exact .nil
end
section
variable {ad:p (Nat×bv)}
def a0.hY(aQ:bn P ad){Q}(aa:t.op=.slice o l (h Q) (h X) q){H a4}(aj:bW ad o=h H)(an:H.desc=.slice W)(ar:bW ad W=h a4){C i S}{u s}{e w}(aw:η l=cy d (.S C i S k))(K:a4.size=i){aM M}(A:n[d]?=h (.h aM M C T))(au:η Q=ax (.int u e))(av:η X=ax (.int s w))(az:0<=e)(aA:e<=w)(aB:S+w<=C):a0 P t η n (cy d (.S C i (S+e.toNat) (w.toNat-e.toNat))) n:=by
 subst K;refine .aZ λg r J p=>?_;have ai:=p l;rw[aw]at ai;have ah:=ai;change cw n g (r l) (.R d _)at ah;obtain⟨R,⟨Z,E,b,Y,V,ab,aI,ak,U,G⟩,z,ae⟩:=ah;have aH:C<=Y:=by
  obtain⟨L,aq,O⟩:=(ae _ _ _ _ A).2 rfl;rcases J.box d _ L A aq with⟨rfl,rfl⟩|⟨j,gZ,B,aF,rfl,_,_,ao,_⟩
  .exact gX _
  rw[U]at O;cases O;exact ao
 have D:=p Q;rw[au]at D;replace D:=b6 D;generalize ag:r Q=aC at D;cases D;have v:=p X;rw[av]at v;replace v:=b6 v;generalize N:r X=aE at v;cases v;have F:=(aQ o H aj).run_underlying (Q:=g.a);rw[an]at F;have x:(aX f k b (h (.int u e)) (h (.int s w)) q).run P g.a=.ok (e.toNat,w.toNat,b) g.a:=by simp[aX,run_sliceBound (P:=P) g.a s w b _ y y,run_sliceBound (P:=P) g.a u e w.toNat _ y y]
 have I:(aX f k b (h (.int u e)) (h (.int s w)) q).events P g.a #[]=#[]:=by
  simp[aX,run_sliceBound (P:=P) g.a s w b _ y y,run_sliceBound (P:=P) g.a u e w.toNat _ y y,
   k' (P:=P) g.a s w b _ y y,k' (P:=P) g.a u e w.toNat _ y y]
 refine⟨.slice (if b=e.toNat then Z else Z.map (·.add (e.toNat*a4.size))) (w.toNat-e.toNat) (b-e.toNat),?_,⟨R,⟨_,E,_,Y,a,by omega,by omega,ak,U,λaG=>?_⟩,z,ae⟩,by simp[ac,aa,V,ag,N,Instr.sliceAt,F,Instr.slice,x,I]⟩
 .simp[ac,aa,V,ag,N,Instr.sliceAt,F,Instr.slice,x,(aQ W a4 ar).bf]
 obtain⟨j,rfl,rfl⟩:=G y;exact QM
end
section
open Go.ChangeMaps (setBlock)
section
def V7(d)(ty)(b j e o)(seen)(T)(clock)(t:d.heap[b]?=h (.mapIter (h j) e seen o))(v:d.heap[j]?=h (.map T clock))(A:∀l∈T.toList,l.born<e)(D:e<=o):
    ∀i∈(Instr.next (.pointer (h ⟨b,0,q⟩)) m ty).events P d #[],i.sync=m/\(i.loc=.obj b∨i.loc=.obj j):=by
  have J:(getObj b).run P d=.ok (.mapIter (h j) e seen o) d:=by simp[getObj,Sem.run,t]
  have F:(getObj j).run P d=.ok (.map T clock) d:=by simp[getObj,Sem.run,v]
  have O:∀T,(getObj b).events P d T=T.push ⟨.obj b,m,m⟩:=λT=>by simp only[getObj,Sem.events,Sem.runT,t];rfl
  have I:∀T,(getObj j).events P d T=T.push ⟨.obj j,m,m⟩:=λT=>by simp only[getObj,Sem.events,Sem.runT,v];rfl
  have K:∀w1 r k,w1.heap[b]?=h (.mapIter (h j) e seen o)->(setObj b (.mapIter (h j) e r clock)).events P w1 k=k.push ⟨.obj b,f,m⟩:=λw1 r k g=>by simp[setObj,Sem.events,Sem.runT,g];rfl
  have y:∀w1 p,w1.heap[b]?=h (.mapIter (h j) e seen o)->∃w2,(setObj b p).run P w1=.ok () w2:=λw1 p g=>⟨{w1 with heap:=w1.heap.setIfInBounds b p},by simp[setObj,Sem.run,g]⟩
  simp only[Instr.next,aH,J,F,O,I,aJ,next_test_false seen T e o A D,j6,dh];generalize z:((if(Array.filter (λl=>decide (l.born<e)) (Array.filter (λi=>!seen.contains i.born) T)).isEmpty=f then #[q]else #[])++Array.map h (Array.filter (λl=>decide (l.born<e)) (Array.filter (λi=>!seen.contains i.born) T)++Array.filter (λl=>decide (l.born≥e)) (Array.filter (λi=>!seen.contains i.born) T)))=L;have N:∃s w1,(w1=d∨w1=d.drew)/\(choose (Question.mapNext L.size)).run P d=.ok s w1/\∀T,(choose (Question.mapNext L.size)).events P d T=T:=by
    by_cases w:L.size<=1
    · exact⟨0,d,Or.inl a,by simp[choose,Sem.run,Question.forced,w],λT=>by simp⟩
    · exact⟨_,d.drew,Or.inr a,by simp only[choose,Sem.run,Question.forced,bA,w,dh,Question.cut];rfl,λT=>by simp⟩
  obtain⟨s,w1,E,B,C⟩:=N;have u:w1.heap[b]?=h (.mapIter (h j) e seen o):=by rcases E with rfl|rfl<;>exact t
  simp only[B,C,aJ];intro i n;have fin:i∈(#[⟨.obj b,m,m⟩,⟨.obj j,m,m⟩,⟨.obj b,f,m⟩]:Array aU):=by
    cases x:L[s]? with
    |none=>rw[x]at n;simp[stuck,Sem.events,Sem.runT]at n;rcases n with g|g<;>simp[g]
    |some p=>
      rw[x]at n;cases p with
      |none=>simp at n;rcases n with g|g<;>simp[g]
      |some l=>
        obtain⟨w2,M⟩:=y w1 (.mapIter (h j) e (seen.push l.born) clock) u;simp[K w1 _ _ u]at n;rcases n with g|g|g<;>simp[g]
  simp at fin;rcases fin with rfl|rfl|rfl<;>simp
def Ub(a)(b j e)(seen:Array Nat)(T)(clock)(d)(g:a.heap[b]?=h (.mapIter (h j) e (seen.push d.born) clock))(i:a.heap[j]?=h (.map T clock))(r:d∈T.toList)(s:(T.toList.map (·.born)).Nodup):
    (Instr.entry (.pointer (h ⟨b,0,q⟩))).events P a #[]=#[⟨.obj b,m,m⟩,⟨.obj j,m,m⟩]:=by
  have k:T.find? (·.born==d.born)=h d:=by rw[<-Array.find?_toList];grind[find_born]
  have o:(getObj b).run P a=.ok (.mapIter (h j) e (seen.push d.born) clock) a:=by simp[getObj,Sem.run,g]
  have l:(getObj j).run P a=.ok (.map T clock) a:=by simp[getObj,Sem.run,i]
  have p:∀T,(getObj b).events P a T=T.push ⟨.obj b,m,m⟩:=λT=>by simp only[getObj,Sem.events,Sem.runT,g];rfl
  have n:∀T,(getObj j).events P a T=T.push ⟨.obj j,m,m⟩:=λT=>by simp only[getObj,Sem.events,Sem.runT,i];rfl
  simp only[Instr.entry,aH,o,l,p,n,aJ,Array.back?_push,iB,j6,dh,k];rfl
def kX(i e:Nat)(b:Array Nat):Z->(Nat->Option Obj)->Prop:=λj a=>∃d:Nat,j=.pointer (h ⟨d,0,q⟩)/\a=λg=>if g=d then h (.mapIter (h i) e b e)else q
def ud(H:Z->(Nat->Option Obj)->Prop)(e:Nat)(b:Array MapEntry)(d:Nat):Prop:=∀g a,H g a->a e=h (.map b d)
variable {r:ai P}
def bb.ed(bO:bb n b)(aE:n[d]?=h (.J H)){g}{T}{s}(i:ud H g T s):b.a.heap[g]?=h (.map T s)/\∃L∈b.m,g∈L.al:=by have e:d<c b.m:=hV;obtain⟨j,a,k,l,o⟩:=bO.box d _ b.m[d] aE (bI e);have:=i _ _ a;grind
def bb.hh(bO:bb n b){k s}{dw}(aE:n[d]?=h (.J (kX k s dw))):∃a:Nat,b.m[d]?=h ⟨.pointer (h ⟨a,0,q⟩),((b.m[d]?).map (·.al)).getD []⟩/\b.a.heap[a]?=h (.mapIter (h k) s dw s)/\∀L,b.m[d]?=h L->∀e,e∈L.al↔e=a:=by
  have i:d<c b.m:=hV;have j:=bI i;obtain⟨l,⟨a,o,p⟩,g,u,t⟩:=bO.box d _ b.m[d] aE j;refine⟨a,?_,g a _ M,λL r e=>?_⟩
  · rw[j];simp[<-o]
  grind
def g.range{o l I}{w A}(k:t.op=.range o (.tmp l))(ae:t.dst=h I)(W:t.guard=q)(G:fa D t.dst=f)(J:P.underlying o=h (.map w A)){a'}(R:∀b p,bV D n b F p->bb n b->p.eval (.tmp l)=.map (h a')){qA:Nat}{H:Z->(Nat->Option Obj)->Prop}{T}{s}(aE:n[qA]?=h (.J H))(Q:ud H a' T s)(ah:g r D be (.ae all br::ar) .normal ((I,.q (.aq (.aQ (c n))))::F) (n++[.J (kX a' s #[])])):g r D be (.ae all (t::br)::ar) .normal F n:=by
  refine g.cF (ι:=Unit) (λ_=>.q (.aq (.aQ (c n)))) (λ_=>n++[.J (kX a' s #[])]) W G ?_ λ_=>by exact hp
  intro b p N i;have K:=R b p N i;obtain⟨x,L,ad,V⟩:=i.ed aE Q;have C:=run_range_map b.a o w A a' T s J x;have E:(Instr.range o (.map (h a'))).events P b.a #[]=#[⟨.obj a',m,m⟩]:=by
    have Y:∀T,(getObj a').events P b.a T=T.push ⟨.obj a',m,m⟩:=λT=>by simp only[getObj,Sem.events,Sem.runT,x];rfl
    have ab:∀t M T,(newObj t).events P M T=T:=λt M T=>by simp
    simp[Instr.range,run_underlying J,MapKept.run_getObj_map x,Y,ab]
  have ag:∀d,b.a.heap.size<=d->∀t,b.u d t=q:=λd e t=>by
    cases j:b.u d t with
    |none=>rfl
    |some aa=>have:=i.block j;omega
  let bh:au:=b.a.alloc (.mapIter (h a') s #[] s);have O:bh.heap.size=b.a.heap.size+1:=by show(b.a.heap.push _).size=_;simp
  have ai:bh.heap[b.a.heap.size]?=h (.mapIter (h a') s #[] s):=lT _ _;obtain⟨z,X⟩:=i.cY (cd:=b.u) (bh:=bh) y (λd e=>iM _ _ e) (λ_ _ _=>rfl) (λd e t aa j=>by grind) rfl rfl rfl;obtain⟨u,v⟩:=z.b0 (bU:=.J (kX a' s #[])) (L:=⟨.pointer (h ⟨b.a.heap.size,0,q⟩),[b.a.heap.size]⟩) X rfl i
    ⟨λd=>if d=b.a.heap.size then h (.mapIter (h a') s #[] s)else q,⟨_,rfl,rfl⟩,λd t e=>by grind,λd=>by by_cases S:d=b.a.heap.size<;>simp[S],λd e t=>by grind⟩
    (λd e=>by grind)
  refine⟨(),.value (.pointer (h ⟨b.a.heap.size,0,q⟩)),_,.pointer (h ⟨b.a.heap.size,0,q⟩),?_,.inl a,⟨λbU B=>?_,⟨.pointer (h ⟨b.a.heap.size,0,q⟩),[b.a.heap.size]⟩,?_,a,a⟩,u,v,?_⟩
  · simp[ac,k,K,cI,C,c0,d6];rfl
  · rw[hl (bC _)]at B;simp at B;subst B;rfl
  · show(b.m++_)[c n]?=_
    rw[<-i.len,hl (bC _)];simp
  · exact x0 (ds.of_eq E (.aq (mu ad V))) (by simp[ac,k,K])
def bV.kh{l}(e:look F l=cM aa):∀b a,bV D n b F a->bb n b->a.eval (.tmp l)=aa:=λb a d _=>by have:=d.aH l;rw[e]at this;exact Rd.bj this
inductive sd (T:Array MapEntry) (dw:Array Nat)
  |over (u:∀aj∈T.toList,aj.born∈dw)
  |aq (aj:MapEntry) (u:aj∈T.toList) (ji:aj.born∉dw)
def sd.c9{T}{dw}:sd T dw->z
  |.over _=>.Q [.aq (.c (.bool m))]
  |.aq a _ _=>.Q [.aq (.c (.bool f)),.aq (.v a.key),.aq (.v a.val)]
def sd.a7{T}{dw}:sd T dw->Array Nat
  |.over _=>dw
  |.aq a _ _=>dw.push a.born
def g.next{l X}{ty}(cv:t.op=.next (.tmp l) m)(aC:t.type=ty)(ab:t.dst=h X)(ag:t.guard=q)(K:fa D t.dst=f){qA kh:Nat}(Q:look F l=.q (.aq (.aQ kh))){a' s}{dw}(V:n[kh]?=h (.J (kX a' s dw))){H:Z->(Nat->Option Obj)->Prop}{T}(aE:n[qA]?=h (.J H))(aj:ud H a' T s)(aa:MapKept.Stamped T s)(az:∀b∈T.toList,dW b.key=f/\dW b.val=f)(ao:∀u:sd T dw,g r D be (.ae all br::ar) .normal ((X,u.c9)::F) (n.set kh (.J (kX a' s u.a7)))):g r D be (.ae all (t::br)::ar) .normal F n:=by
  refine g.cF (ι:=sd T dw) (λu=>u.c9) (λu=>n.set kh (.J (kX a' s u.a7))) ag K ?_ λu=>by rw[ab];exact ao u
  intro i ak ah p;obtain⟨e,j,y,G⟩:=p.hh V;have w:ak.eval (.tmp l)=.pointer (h ⟨e,0,q⟩):=by
    have:=ah.aH l;rw[Q]at this;obtain⟨_,L,U,w,_⟩:=(show cw _ i _ (.aQ kh)from this)
    rw[j]at U;cases U;exact w
  obtain⟨W,L,U,aB⟩:=p.ed aE aj;have aw:=b8 j;have ax:=(G _ j e).2 a;have Y:ds i ((Instr.next (.pointer (h ⟨e,0,q⟩)) m t.type).events P i.a #[]):=by
    intro b B;obtain⟨av,S|S⟩:=V7 i.a t.type e a' s s dw T s y W aa.1 (bC _) b B
    · obtain⟨N,wr,ae⟩:=b;grind[mu]
    · obtain⟨N,wr,ae⟩:=b;grind[mu]
  have aq:n.set kh (.J (kX a' s dw))=n:=mV;rcases run_next_at (P:=P) i.a t.type e a' s s dw T s y W aa.1 (bC _)with⟨R,C⟩|⟨b,B,w1,O,C⟩
  · have au:∀b∈T.toList,b.born∈dw:=by intro b B;have:=Array.eq_empty_of_size_eq_zero R;unfold leftOf at this;grind[Array.filter_eq_empty_iff]
    refine⟨.over au,.value (.tuple #[.bool m]),i,_,?_,.inl a,⟨[.bool m],a,Rd.bool,v⟩,?_,?_,?_⟩
    · simp[ac,cv,w,cI,C,c0,d6]
    · show bb (n.set kh (.J (kX a' s dw))) i
      grind
    · show cN n i (n.set kh (.J (kX a' s dw))) i
      rw[aq];exact .refl _ _
    · exact x0 Y NA
  · have J:b∈T.toList/\b.born∉dw:=by simp[leftOf]at B;grind
    have A:w1.heap=i.a.heap/\w1.os=i.a.os/\w1.tape=i.a.tape/\w1.output=i.a.output:=by rcases O with rfl|rfl<;>exact⟨rfl,rfl,rfl,rfl⟩
    have aA:=p.lt _ aw e ax;have z:e<w1.heap.size:=M;obtain⟨ai,ad⟩:=p.b_ (d:=kh) (j2:=kX a' s (dw.push b.born)) (cm:=⟨.pointer (h ⟨e,0,q⟩),((i.m[kh]?).map (·.al)).getD []⟩) (bh:=setBlock w1 e (.mapIter (h a') s (dw.push b.born) s)) V j rfl
      (by simp[setBlock,A.1]) (λo k an=>by
        have aM:e≠o:=M;simp[setBlock]
        grind) (λo k=>.inl k)
      ⟨λo=>if o=e then h (.mapIter (h a') s (dw.push b.born) s)else q,⟨e,rfl,rfl⟩,λo t k=>by
        by_cases x:o=e
        · subst x
          simp[dH]at k;cases k;simp[setBlock];grind
        grind,λo=>by
        rw[G _ j o]
        by_cases x:o=e<;>simp[x]⟩ (by simp[setBlock,A.2.1]) (by simp[setBlock,A.2.2.1]) (by simp[setBlock,A.2.2.2])
    obtain⟨E,I⟩:=az b J.1;refine⟨.aq b J.1 J.2,.value (.tuple #[.bool f,b.key,b.val]),_,_,?_,.inl a,⟨[.bool f,b.key,b.val],a,Rd.bool,Rd.val E,Rd.val I,v⟩,ai,ad,?_⟩
    · simp[ac,cv,w,cI,C,c0,d6]
    · exact x0 Y NA
def g.entry{l v}(j:t.op=.entry (.tmp l))(N:t.dst=h v)(R:t.guard=q)(y:fa D t.dst=f){qA kh:Nat}(O:look F l=.q (.aq (.aQ kh))){a' s:Nat}{dw:Array Nat}{aj:MapEntry}(E:n[kh]?=h (.J (kX a' s (dw.push aj.born)))){T:Array MapEntry}(aE:n[qA]?=h (.J H))(J:ud H a' T s)(u:MapKept.Stamped T s)(w:aj∈T.toList){X:z}(I:∀e:a5,bx n e (.tuple #[aj.key,aj.val]) X)(S:g r D be (.ae all br::ar) .normal ((v,X)::F) n):g r D be (.ae all (t::br)::ar) .normal F n:=by
  refine g.cF (ι:=Unit) (λ_=>X) (λ_=>n) R y ?_ λ_=>by exact hp
  intro e A C d;obtain⟨k,b,i,M⟩:=d.hh E;have o:A.eval (.tmp l)=.pointer (h ⟨k,0,q⟩):=by
    have:=C.aH l;rw[O]at this;obtain⟨_,L,p,o,_⟩:=(show cw _ e _ (.aQ kh)from this)
    rw[b]at p;cases p;exact o
  obtain⟨x,L,p,B⟩:=d.ed aE J;have K:=run_entry_at (P:=P) e.a k a' s dw T s aj i x w u.2.1;have Q:=Ub (P:=P) e.a k a' s dw T s aj i x w u.2.1;refine⟨(),.value (.tuple #[aj.key,aj.val]),e,_,?_,.inl a,I e,d,.refl _ _,?_⟩
  · simp[ac,j,o,cI,K,c0,d6]
  · exact x0 (ds.of_eq Q (.fh (mu (b8 b) ((M _ b k).2 a)) (mu p B))) (by simp[ac,j,o])
end
end
inductive fg where
 |nil (x:Option Addr)
 |row (j cap:Nat)
def cX(b:fg)(g:Nat):Z:=match b with
 |.nil d=>.slice d 0 0
 |.row e a=>.slice (h ⟨e,0,q⟩) g a
def tC(bN)(k):dW (cX bN k)=f:=by cases bN<;>rfl
def Ew(a:p Z):Nat->p N:=λb=>[.val (a.getD b K)]
section
variable {r:ai P}
def bY.e1{aM}{dE:ι->bH}{ao:ι->p an}(I:∀e g,bV D n e F g->bb n e->∃(b:ι)(a:a5),a.a=e.a/\bV D (ao b) a (dE b) g/\bb (ao b) a/\cN n e (ao b) a)(K:∀b,bY r D s aM (dE b) (ao b)):bY r D s aM F n:=by intro e g O d B v l A u t;obtain⟨b,a,N,E,y,x⟩:=I e g O d;have z:=x.tooU d;refine .aV (.of d y N z) ?_;exact K b a g E y B v l A u λC J j w k Q M o i=>t C J j w k Q M o (z.trans i)
def g.gM(d){y:an}(i:ι->an)(u:n[d]?=h y)(t:∀j L,ep n j y L->∃k,(∀ao,ep ao j (i k) L)/\fD y L (i k) L)(E:∀k,g r D be (.code s::ar) .normal F (n.set d (i k))):g r D be (.code s::ar) .normal F n:=by
 refine bY.e1 (dE:=λ_=>F) (ao:=λk=>n.set d (i k)) (λj M z bO=>?_) E;have O:d<c n:=(cO.1 u).1;have I:d<c j.m:=hV;have A:=bI I;generalize j.m[d]=L at A;obtain⟨k,J,Q⟩:=t j L (bO.box d _ L u A);have w:fh n j (n.set d (i k)) j:=by
  refine⟨λ_ _ _ t=>t,λl o p b e=>?_⟩;by_cases x:d=l
  .subst x;rw[u]at b;cases b;rw[A]at e;cases e;simp_all
  exact⟨o,p,by grind,e,.refl _ _⟩
 have v:cN n j (n.set d (i k)) j:=
  ⟨bC _,λ_ _ _=>rfl,λ_ _ _ t=>t,λ_ _ _ _=>rfl,λL t N C=>.inr ⟨L,t,C⟩,w.box,rfl,rfl,rfl,rfl⟩
 refine⟨k,j,a,⟨z.size,z.defers.imp λ_ B=>B.mono v.ext,λK=>(z.aH K).mono v.ext bO.len⟩,⟨bO.mem,by simp[bO.len],?_,bO.a3,bO.lt,bO.own⟩,v⟩;intro l o p b e;by_cases x:d=l
 .subst x;simp_all
 rw[kA x]at b;exact(bO.box l o p b e).cd w bO.len λ_ _=>⟨a,λ_=>rfl⟩
def g.gy(d)(b:ι->Z->(Nat->Option Obj)->Prop)(i:n[d]?=h (.J H))(p:∀k a,H k a->∃e,b e k a)(j:∀e,g r D be (.code s::ar) .normal F (n.set d (.J (b e)))):g r D be (.code s::ar) .normal F n:=
 g.gM d (λe=>.J (b e)) i (λt L ⟨a,l,o⟩=>let ⟨e,bp⟩:=p _ _ l;⟨e,λ_=>⟨a,bp,o⟩,rfl⟩) j
def g.gO(d){W i}(a:Nat->p N)(x:n[d]?=h (.h W i k T))(J:∀b,b<k->c (a b)=i)(M:∀z b,b<k->∀(j:Nat) o,(a b)[j]?=h o->∃s,(T b)[j]?=h s/\∀l,Rd z l s->Rd z l o)(y:g r D be (.code s::ar) .normal F (n.set d (.h W i k a))):g r D be (.code s::ar) .normal F n:=by
 refine g.gM (ι:=Unit) d (λ_=>.h W i k a) x (λV L v=>⟨(),λC=>?_,λ_=>rfl,bC _⟩) λ_=>y;rcases v with U|⟨E,Z,B,X,t,u,Y,O,S,A,Q⟩
 .exact .inl U
 refine .inr ⟨E,Z,B,X,t,u,Y,O,S,⟨A.len,J,λb e j o w=>?_⟩,Q⟩;obtain⟨s,aa,R⟩:=M V.u b e j o w;obtain⟨l,K,I⟩:=A.rd b e j s aa;exact⟨l,K,R l I⟩
end
def nj:N->Bool
 |.int _ _|.bool _|.V _|.bc|.bo|.da|.val _=>f
 |_=>m
def ni:O->Bool
 |.c a=>nj a
 |.any=>f
 |_=>m
def yh:p O->Bool
 |[]=>f
 |a::b=>match ni a with|true=>yh b|false=>m
def u_:E1->Bool
 |.aq b=>ni b
 |.agg a=>yh a
def yg:p E1->Bool
 |[]=>f
 |a::b=>match u_ a with|true=>yg b|false=>m
def yf:z->Bool
 |.q b=>u_ b
 |.Q a=>yg a
 |.any=>f
section
theorem u9{a}{s}(b:nj s=f)(d:Rd bB aa s):Rd a aa s:=by
 cases d<;>first|(simp[nj]at b;done)|skip
 case int cS=>exact .int cS
 case bool=>exact .bool
 case V cS dp=>exact .V cS dp
 case bc=>exact .bc
 case bo=>exact .bo
 case da=>exact .da
 case val cS=>exact .val cS
def Jl{a}(d:ni a=f)(e:cw n b aa a):cw ao az aa a:=by
 cases a with
 |c g=>exact u9 d e
 |any=>exact e
 |_=>simp[ni]at d
def Jn:∀{B:p Z}{a:p O},yh a=f->bM n b B a->bM ao az B a
 |[],[],_,_=>trivial
 |[],_::_,_,d=>d.elim
 |_::_,[],_,d=>d.elim
 |j::B,i::a,e,d=>by
  simp[yh]at e;cases g:ni i with
  |false=>grind
  |true=>simp[g]at e;exact⟨Jl g d.1,Jn e d.2⟩
def CL{l}(a:u_ l=f)(d:er n b aa l):er ao az aa l:=by
 cases l with
 |aq j=>exact Jl a d
 |agg i=>obtain⟨B,e,g⟩:=d;exact⟨B,e,Jn a g⟩
def Jm:∀{B:p Z}{a:p E1},yg a=f->eQ n b B a->eQ ao az B a
 |[],[],_,_=>trivial
 |[],_::_,_,d=>d.elim
 |_::_,[],_,d=>d.elim
 |j::B,i::a,e,d=>by
  simp[yg]at e;cases g:u_ i with
  |false=>grind
  |true=>simp[g]at e;exact⟨CL g d.1,Jm e d.2⟩
def Yl{a}(d:yf a=f)(e:bx n b aa a):bx ao az aa a:=by
 cases a with
 |q k=>exact CL d e
 |Q j=>obtain⟨B,g,i⟩:=e;exact⟨B,g,Jm d i⟩
 |any=>trivial
end
def qE:p an->Bool
 |[]=>f
 |.J _::a=>qE a
 |.x::a=>qE a
 |_=>m
def KB:∀{e:p an},qE e=f->∀a∈e,(∃H,a=.J H)∨a=.x
 |[],_,a,aE=>by grind
 |b::g,i,a,aE=>by
  have d:((∃H,b=.J H)∨b=.x)/\qE g=f:=by cases b<;>simp_all[qE]
  rcases fl.1 aE with rfl|aE
  .exact d.1
  exact KB d.2 a aE
def Ag(j:p an)(k:Nat)(o:Z)(l n:Nat)(i:Nat->p N):Prop:=
 ∀e,bb j e->∃L d,e.m[k]?=h L/\(∀a b g,e.u a b=h g->d a b=h g)/\(∀a,a∉L.al->∀b,d a b=e.u a b)/\(∀a b g,d a b=h g->e.a.cell? ⟨a,b,q⟩=h g) /\
  (∀a∈L.al,∀b,e.u a b=q)/\Rd d o (.S m l n i)
section
variable {r:ai P}
def b4.hU{n}{b}{j}:∀{B:p Z}{a:p z}{R:Nat}{e:Z},b4 n b B a->B[R]?=h e->bx n b e j->b4 n b B (a.set R j)
 |[],[],_,_,_,d,_=>by grind
 |[],_::_,_,_,d,_,_=>d.elim
 |_::_,[],_,_,d,_,_=>d.elim
 |l::B,k::a,0,e,d,i,g=>by simp at i;subst i;exact⟨g,d.2⟩
 |l::B,k::a,R+1,e,d,i,g=>⟨d.1,b4.hU (R:=R) d.2 M g⟩
def pM(k:p an)(l g:p z):Prop:=
 ∀e B,bb k e->b4 k e B l->∃(j:Nat->Prop) (d:Mem),(∀a,j a->∃L∈e.m,a∈L.al)/\(∀a b i,e.u a b=h i->d a b=h i)/\(∀a,¬j a->∀b,d a b=e.u a b) /\
  (∀a b i,d a b=h i->e.a.cell? ⟨a,b,q⟩=h i)/\(∀a,j a->∀b,e.u a b=q)/\b4 k {e with u:=d} B g
def pM.refl(n)(bg):pM n bg bg:=λe B b d=>⟨λ_=>False,e.u,λ_ a=>a.elim,λ_ _ _ a=>a,λ_ _ _=>rfl,b.mem,λ_ a=>a.elim,d⟩
def pM.step{bg e}(I:pM n bg e)(o X){s}{i}(Q:e[o]?=h (cM s))(x:Ag n X s i k T):pM n bg (e.set o (ax (.S m i k T))):=by
 classical
 intro r B j y;obtain⟨u,d,aa,R,V,G,O,A⟩:=I r B j y;obtain⟨L,l,C,H,N,U,W,S⟩:=x r j;have p:∀a b g,d a b=h g->(d a b).or (l a b)=h g:=λa b g t=>by grind
 have w:∀a b g,l a b=h g->(d a b).or (l a b)=h g:=λa b g t=>by
  cases D:d a b with
  |none=>grind
  |some z=>
   grind
 refine⟨λa=>u a∨a∈L.al,λa b=>(d a b).or (l a b),M,λa b g t=>p a b g (R a b g t),M,?_,?_,?_⟩
 .intro a b g t;cases D:d a b with
  |none=>grind
  |some z=>grind
 .grind
 have v:fh n {r with u:=d} n {r with u:=λa b=>(d a b).or (l a b)}:=⟨p,λY u L aE C=>⟨u,L,aE,C,.refl _ _⟩⟩
 have K:=A.mono v j.len;obtain⟨Z,F⟩:=b4.get A;have E:o<c B:=M;have J:B[o]?=h s:=by have:=F o;rw[Q,bI E]at this;have:=Rd.bj (show Rd d B[o] (.val s)from this);grind
 exact K.hU J (show bx n {r with u:=λa b=>(d a b).or (l a b)} s (ax (.S m i k T))from Rd.mono w S)
end
def ck(k:av)(j:Nat)(e:fg)(g:Nat)(b:p Z):Z->(Nat->Option Obj)->Prop:=λo d=>o=.nilFunc/\(∀r∈b,dW r=f)/\c b=g*j/\match e with
 |.nil _=>g=0/\d=λ_=>q
 |.row l a=>g<=a/\a<=9223372036854775807/\∃i,c (b++i)=a*j/\d=λn=>if n=l then h (.cells (b++i).toArray k (0,0))else q
def l6(b:Nat)(a:p Z):Nat->p N:=λd=>((a.drop (d*b)).take b).map .val
def M0{i}{ag}(a:c ag=k*i)(bp:e<k):c (l6 i ag e)=i:=by have:e*i+i<=k*i:=Ft;simp[l6,a];omega
def MZ{i}{ag}{s}(b:(l6 i ag e)[w]?=h s):∃a,ag[e*i+w]?=h a/\s=.val a:=by simp[l6,m7,ik,pY]at b;grind
def ck.lookup{i cap}{ag}(d:ck W i (.row j cap) k ag aa k6):∃a,c (ag++a)=cap*i/\k6 j=h (.cells (ag++a).toArray W (0,0))/\∀b,(k6 b).isSome=f↔b=j:=by obtain⟨_,_,_,_,_,a,e,g⟩:=d;grind
def Rd.ki{cap i}{ag}(r:∀t∈ag,dW t=f)(d:c ag=k*i)(g:k<=cap)(p:cap<=9223372036854775807)(v:∀n,bB j n=ag[n]?):Rd bB (.slice (h ⟨j,0,q⟩) k cap) (.S m i k (l6 i ag)):=by refine Rd.eG (bB:=bB) (i:=i) (k:=k) (T:=l6 i ag) (B:=ag) (x:=h ⟨j,0,q⟩) (j:=j) (off:=0) (cap:=cap) (o:=m) ⟨d,λs b=>M0 d b,λs b y u e=>?_⟩ bl g p E (λz l w=>by grind);obtain⟨l,a,rfl⟩:=MZ e;exact⟨l,a,.val (r l (b8 a))⟩
section
variable {r:ai P}
def ck.fH{i d}{bN}{ag}(e:n[d]?=h (.J (ck W i bN k ag)))(T:Nat->p N)(C:∀a,a<k->c (T a)=i/\∀J b g D,(T a)[b]?=h g->ag[a*i+b]?=h D->Rd J D g):Ag n d (cX bN k) i k T:=by
 intro r bO;have ab:=(cO.1 e).1;have X:d<c r.m:=hV;have s:=bI X;generalize r.m[d]=L at s;obtain⟨Q,H,R,F,v⟩:=bO.box d _ L e s;cases bN with
 |nil K=>
  obtain⟨_,_,_,rfl,_⟩:=H;exact⟨L,r.u,s,λ_ _ _ S=>S,λ_ _ _=>rfl,bO.mem,v,Rd.dH⟩
 |row j cap=>
  obtain⟨ai,ae,Z,aa⟩:=H.lookup;obtain⟨ah,G,y,V,O,_⟩:=H;have I:=(F j).2 M
  have Y:=R j _ Z;obtain⟨t,u⟩:=bO.fv (j:=j) (B:=ag) (v j I) (λl ao U=>by
   simp[aN,Y]
   grind)
  refine⟨L,λz l=>if z=j then ag[l]? else r.u z l,s,u,λz aM l=>bm M,t.mem,v,?_⟩;refine Rd.eG (i:=i) (k:=k) (T:=T) (B:=ag) (x:=h ⟨j,0,q⟩) (j:=j) (off:=0) (cap:=cap) (o:=m) ⟨y,λa bp=>(C a bp).1,λa bp b g w=>?_⟩ bl V O E (λak an aj=>by grind);have ad:b<i:=M;have A:a*i+b<c ag:=by rw[y];have:a*i+i<=k*i:=Ft;omega
  exact⟨ag[a*i+b],bI A,(C a bp).2 _ b g _ w (bI A)⟩
def ev.ft{i}(C:j1 P t l X W a4)(aa:a4.size=i){bN}{ag}(S:bF F l=cM (cX bN k))(Y:n[d]?=h (.J (ck W i bN k ag))){r2}{dI:Nat->p N}(bn:bF F X=ax (.S r2 i 1 dI)){hU}(bG:c hU=i)(bu:∀bB g (s:Nat) bq,(dI 0)[s]?=h bq->Rd bB g bq->hU[s]?=h g/\dW g=f)(v:(k+1)*a4.bytes<=140737488355328):
  ev P D t F n (λaM:fg=>cM (cX aM (k+1))) λaM=>n.set d (.J (ck W i aM (k+1) (ag++hU))):=by
 intro b aA aJ bO;obtain⟨bV,t2,aW,cc,Z,w,z,a1,G⟩:=C.op;have bj:=(cO.1 Y).1;have aq:d<c b.m:=hV;have J:=bI aq;generalize b.m[d]=L at J;obtain⟨bQ,az,bL,aH,aC⟩:=bO.box d _ L Y J;have a_:=b8 J;have aj:=eJ aJ l;rw[S]at aj;have aj:=Rd.bj aj;have R:=eJ aJ X;rw[bn]at R;have R:=b6 R;have bM:=az.2.1;have a':=az.2.2.1;have bS:∀j,b.a.heap.size<=j->∀t,b.u j t=q:=λj v t=>by
  cases bk:b.u j t with
  |none=>rfl
  |some g=>have:=bO.block bk;omega
 have mk:∀o x cap,cX bN k=.slice x k cap->cap<k+1->bb (n.map λ_=>.x) {b with u:=o}->(∀e t g,b.u e t=h g->o e t=h g) ->
   Rd o (.slice x k cap) (.S m i k (l6 i ag))->(∀{I},ds {b with u:=o} I->ds b I) ->
   ∃aW av ab g,(ac aA.eval t).run P b.a=.ok av ab.a/\(av=.value g∨(av=.skip/\g=K))/\bx (n.set d (.J (ck W i aW (k+1) (ag++hU)))) ab g (cM (cX aW (k+1)))/\bb (n.set d (.J (ck W i aW (k+1) (ag++hU)))) ab/\cN n b (n.set d (.J (ck W i aW (k+1) (ag++hU)))) ab/\ds b ((ac aA.eval t).events P b.a #[]):=by
  intro o x cap aP r ai aE aF ad;have a2:Rd ({b with u:=o}:a5).u (aA.eval X) (.S r2 a4.size 1 dI):=by rw[aa];exact R.mono aE
  have bp:Rd ({b with u:=o}:a5).u (.slice x k cap) (.S m a4.size k (l6 i ag)):=M;obtain⟨B,u,bo,O,V,f3,f4,f5⟩:=vL (P:=P) (b:={b with u:=o}) (ty:=t.type) w z a1 G C.elem ai bp a2 r v C.bytes;have f6:=uW (P:=P) (b:={b with u:=o}) (ty:=t.type) w z a1 G C.elem ai bp a2 r v C.bytes;rw[aa]at O f4;have bD:=O.len;have bt:c ag+i=(k+1)*i:=M;have aL:0<i:=by have:=C.size;omega
  have aG:∀s,s<i->∃g,B[k*i+s]?=h g/\hU[s]?=h g/\dW g=f:=λs bg=>by
   have aS:=O.bJ k y;have aV:ce k (l6 i ag) dI k=dI 0:=by simp[ce]
   rw[aV]at aS;obtain⟨g,aZ,a0⟩:=O.rd k y s ((dI 0)[s]'y) M;grind
  have aR:B=ag++hU:=by
   apply p4;intro T;by_cases br:T<c ag
   .have w:T / i<k:=si M;have bz:=uo T i;have aT:=M0 (i:=i) a' w;have bs:ce k (l6 i ag) dI (T / i)=l6 i ag (T / i):=by simp[ce,w]
    have aK:T % i<c (l6 i ag (T / i)):=by rw[aT];exact pZ _ aL
    obtain⟨g,aZ,a0⟩:=O.rd (T / i) y (T % i) ((l6 i ag (T / i))[T % i]) M;obtain⟨bW,bT,bU⟩:=MZ (bI aK);grind[Rd.bj]
   grind
  subst aR;have ao:∀l∈hU,dW l=f:=λl S=>by grind[List.getElem_of_mem]
  let bh:au:=b.a.drew.alloc (.cells (ag++hU++u).toArray W);have bl:bh.heap[b.a.heap.size]?=h (.cells (ag++hU++u).toArray W (0,0)):=lT b.a.drew _;have bC:bh.heap.size=b.a.heap.size+1:=Nh;obtain⟨aw,a8⟩:=bO.b_ (d:=d) (j2:=ck W i (.row b.a.heap.size bo) (k+1) (ag++hU)) (cm:=⟨L.v,[b.a.heap.size]⟩) (bh:=bh) Y J rfl y
   (λj v _=>iM b.a.drew _ v) (λj v=>by grind)
   ⟨λe=>if e=b.a.heap.size then h (.cells (ag++hU++u).toArray W (0,0))else q,⟨az.1,λl S=>by grind,by grind,V,f3,u,by omega,rfl⟩,λj t v=>by grind,λj=>by by_cases br:j=b.a.heap.size<;>simp[br]⟩ a a a
  refine⟨.row b.a.heap.size bo,.value (.slice (h ⟨b.a.heap.size,0,q⟩) (k+1) bo),_,_,?_,.inl a,Rd.val a,aw,a8,?_⟩
  .rw[la Z,aj,aP];simp[cI,d6];exact hp
  grind[la,jh]
 cases bN with
 |nil x=>
  obtain⟨_,_,_,rfl,_⟩:=az;refine mk b.u x 0 a E (by have:=bO.dZ;omega) (λ_ _ _ C=>C) Rd.dH (λC=>C)
 |row j cap=>
  obtain⟨u,bJ,an,bd⟩:=az.lookup;obtain⟨aQ,_,_,r,ah,_⟩:=az;have H:=(aH j).2 M;have a6:=bL j _ an;have ae:=aC j H;have bc:=bO.lt L a_ j H;have aI:∀t g,ag[t]?=h g->b.a.cell? ⟨j,t,q⟩=h g:=by intro t g Z;simp[aN,a6];grind
  obtain⟨aB,ak⟩:=bO.fv (j:=j) (B:=ag) ae aI;have ad:∀{I:Array aU},ds {b with u:=λe t=>if e=j then ag[t]? else b.u e t} I->ds b I:=λbf=>
   bf.gG (j:=j) a_ H ak λe t g aj=>by grind
  have aF:=Rd.ki (bB:=λe t=>if e=j then ag[t]? else b.u e t) (j:=j) (cap:=cap) (ag:=ag) bM a' r ah (λt=>by simp);by_cases a3:k+1<=cap
  .have a2:Rd ({b with u:=λe t=>if e=j then ag[t]? else b.u e t}:a5).u (aA.eval X) (.S r2 a4.size 1 dI):=by rw[aa];exact R.mono ak
   obtain⟨A,O,V⟩:=DN (P:=P) (b:={b with u:=λe t=>if e=j then ag[t]? else b.u e t}) (ty:=t.type) (k:=k) (j:=j) (cap:=cap) w z a1 G C.elem aB a6 M a2 a3;have f6:=B7 (P:=P) (b:=b) (ty:=t.type) (k:=k) (j:=j) (cap:=cap) w z a1 G C.elem bO a6 M (l:=aA.eval X) (r2:=r2) (dI:=dI) M a3 a_ H (λt _=>ae t);rw[aa]at O V;have aO:c A=i:=by have:=O.len;omega
   have bE:=O.bJ 0 y;have aG:∀s,s<i->∃g,A[s]?=h g/\hU[s]?=h g/\dW g=f:=λs bg=>by obtain⟨g,aZ,a0⟩:=O.rd 0 y s ((dI 0)[s]'y) (bI y);grind
   have bK:A=hU:=mV;subst bK;have ao:∀l∈A,dW l=f:=λl S=>by grind[List.getElem_of_mem]
   have bw:k*i+i<=cap*i:=by rw[<-oW];exact gV _ a3
   have bH:i<=c u:=M;have bP:((ag++u).take (k*i)++A++(ag++u).drop (k*i+c A))=ag++A++u.drop i:=by rw[<-a',aO];simp
   rw[bP]at V;have bm:(b.a.setRow j (ag++A++u.drop i).toArray).heap[j]?=h (.cells (ag++A++u.drop i).toArray W (0,0)):=setRow_heap b.a j _ _ W _ a6;have ar:∀e,e≠j->(b.a.setRow j (ag++A++u.drop i).toArray).heap[e]?=b.a.heap[e]?:=λe aX=>setRow_other b.a j e _ aX;obtain⟨aw,a8⟩:=bO.b_ (d:=d) (j2:=ck W i (.row j cap) (k+1) (ag++A)) (cm:=L) (bh:=b.a.setRow j (ag++A++u.drop i).toArray) Y J rfl E
    (λe aX bR=>ar e M) (λe aX=>.inl aX)
    ⟨λe=>if e=j then h (.cells (ag++A++u.drop i).toArray W (0,0))else q,⟨aQ,λl S=>by grind,by grind,a3,ah,u.drop i,by grind,rfl⟩,λe t aX=>by grind,λe=>by grind⟩ a a a
   refine⟨.row j cap,.value (.slice (h ⟨j,0,q⟩) (k+1) cap),_,_,?_,.inl a,Rd.val a,aw,a8,?_⟩
   .rw[la Z,aj];simp only[cI,d6,cX];exact hp
   rw[la Z,aj];exact jh f6
  exact mk _ (h ⟨j,0,q⟩) cap a y aB ak aF ad
def g.ft{i}(C:j1 P t l X W a4)(I:a4.size=i){w}(B:t.dst=h w)(J:t.guard=q)(M:fa D t.dst=f){bN}{ag}(K:bF F l=cM (cX bN k))(j:n[d]?=h (.J (ck W i bN k ag))){s}{b:Nat->p N}(E:bF F X=ax (.S s i 1 b)){hU}(z:c hU=i)(A:∀y u (x:Nat) v,(b 0)[x]?=h v->Rd y u v->hU[x]?=h u/\dW u=f)(e:(k+1)*a4.bytes<=140737488355328)(o:∀a:fg,g r D be (.ae all br::ar) .normal ((w,cM (cX a (k+1)))::F) (n.set d (.J (ck W i a (k+1) (ag++hU))))):g r D be (.ae all (t::br)::ar) .normal F n:=
 g.cF (ι:=fg) (λa=>cM (cX a (k+1))) (λa=>n.set d (.J (ck W i a (k+1) (ag++hU)))) J M (.ft C I K j E z A e) λa=>by rw[B];exact o a
def g.jz(o)(W)(i){w}(J:look F o=ax (.S f w 0 T))(u:∀e:fg,g r D be (.code s::ar) .normal ((o,cM (cX e 0))::F) (n++[.J (ck W i e 0 [])])):g r D be (.code s::ar) .normal F n:=by
 refine bY.e1 (λy K j b=>?_) u;have x:=j.aH o;rw[J]at x;obtain⟨d,v,B,I,_,_,k,_,_⟩:=(b6 x).b3;have k:=k a;subst k;obtain⟨C,l⟩:=b.b0 (bU:=.J (ck W i (.nil d) 0 [])) (L:=⟨.nilFunc,[]⟩) (.refl _ _) rfl b ⟨λ_=>q,⟨rfl,by simp,by simp,rfl,rfl⟩,by simp,by simp,by simp⟩ E;refine⟨.nil d,{y with m:=y.m++[⟨.nilFunc,[]⟩]},rfl,⟨j.size,j.defers.imp λ_ p=>p.mono l.ext,λz=>?_⟩,C,l⟩;simp only[look];cases t:af o z with
 |false=>exact(j.aH z).mono l.ext b.len
 |true=>
  have A:=di t;subst A;show Rd _ _ _;rw[I];exact Rd.val a
def g.iC(o d){i}{bN}{ag}(t:Nat->p N)(ae:look F o=cM (cX bN k))(w:n[d]?=h (.J (ck W i bN k ag)))(Z:∀E,E<k->c (t E)=i/\∀X M s V,(t E)[M]?=h s->ag[E*i+M]?=h V->Rd X V s)(K:g r D be (.code s::ar) .normal ((o,ax (.S m i k t))::F) (n.set d .x)):g r D be (.code s::ar) .normal F n:=by
 refine g.aV (λy aj C e=>?_) K;obtain⟨L,u,T,R,Q,ad,O,ai⟩:=ck.fH w t Z y e;have Y:=(cO.1 w).1;have S:=C.aH o;rw[ae]at S;have z:=Rd.bj S;have B:fh n y (n.set d .x) {y with u:=u}:=by
  refine⟨R,λl bU cm b lQ=>?_⟩;by_cases v:d=l
  .subst v;rw[w]at b;cases b;exact⟨.x,cm,by grind,lQ,a⟩
  exact EV
 have x:cN n y (n.set d .x) {y with u:=u}:=by refine⟨bC _,λ_ _ _=>rfl,R,λA _ J ab=>Q A (J L (b8 T)) ab,λL aa A j=>.inr ⟨L,aa,j⟩,B.box,rfl,rfl,rfl,rfl⟩
 refine⟨{y with u:=u},rfl,⟨C.size,C.defers.imp λ_ I=>I.mono x.ext,λU=>?_⟩,⟨ad,by simp[e.len],?_,e.a3,e.lt,e.own⟩,x⟩
 .simp only[look];cases j:af o U with
  |false=>exact(C.aH U).mono x.ext e.len
  |true=>
   have v:=di j;subst v;show Rd _ _ _;grind
 intro l bU cm b lQ;by_cases v:d=l
 .subst v;rw[ij Y]at b;cases b;trivial
 rw[kA v]at b;exact(e.box l bU cm b lQ).cd B e.len λA j=>⟨a,Q A λah=>v (e.a3 d l L cm T lQ A ah j)⟩
end
structure eg(i k:Nat)(T:Nat->p N)(ag:p Z):Prop where
 len:c ag=k*i
 d':∀e,e<k->c (T e)=i
 b4:∀e,e<k->∀w s,(T e)[w]?=h s->∃l,ag[e*i+w]?=h l/\∀bB,Rd bB l s
def eg.rd{i}{ag}(l:eg i k T ag):∀a,a<k->c (T a)=i/\∀bB e d j,(T a)[e]?=h d->ag[a*i+e]?=h j->Rd bB j d:=λa b=>
 ⟨l.d' a b,λbB e d j g p=>by obtain⟨r,n,o⟩:=l.b4 a b e d g;grind⟩
def ME(b:Z):O->O
 |.r 0 _ _ _=>.v b
 |a=>a
def Ep(d:Z):E1->E1
 |.aq a=>.aq (ME d a)
 |b=>b
def Er(a:Z):p E1->p E1
 |[]=>[]
 |b::d=>Ep a b::Er a d
def MF(b:Z):z->z
 |.q d=>.q (Ep b d)
 |.Q a=>.Q (Er b a)
 |.any=>.any
def rP(d:Nat):O->Bool
 |.r 0 _ b _=>af b d
 |a=>ni a
def vv(d:Nat):E1->Bool
 |.aq a=>rP d a
 |b=>u_ b
def vw(a:Nat):p E1->Bool
 |[]=>f
 |b::d=>match vv a b with|true=>vw a d|false=>m
def Di(b:Nat):z->Bool
 |.q d=>vv b d
 |.Q a=>vw b a
 |.any=>f
section
variable {i:Nat}{L:Loc}
def aee(u:b.m[0]?=h L){e}(d:rP k e=f)(j:cw [an.r W i k T] b aa e):cw ao az aa (ME L.v e):=by
 cases e with
 |c x=>exact u9 d j
 |any=>exact j
 |r p v w n=>
  cases p with
  |zero=>
   obtain⟨t,_,g⟩:=j;have g:=g W i k T a;have s:=di d;obtain⟨r,o,l⟩:=g.2 s.symm;rw[u]at o;cases o;show Rd _ _ _;rw[l];exact .val (l▸t.cell)
  |succ p=>simp[rP,ni]at d
 |ptr=>simp[rP,ni]at d
 |aQ=>simp[rP,ni]at d
 |R=>simp[rP,ni]at d
def MH(g:b.m[0]?=h L){l}(d:vv k l=f)(e:er [an.r W i k T] b aa l):er ao az aa (Ep L.v l):=by
 cases l with
 |aq j=>exact aee g d e
 |agg a=>exact CL (l:=.agg a) d e
def MI(g:b.m[0]?=h L):∀{B:p Z}{a:p E1},vw k a=f->eQ [an.r W i k T] b B a->eQ ao az B (Er L.v a)
 |[],[],_,_=>trivial
 |[],_::_,_,d=>d.elim
 |_::_,[],_,d=>d.elim
 |n::B,l::a,e,d=>by
  simp[vw]at e;cases j:vv k l with
  |false=>grind
  |true=>simp[j]at e;exact⟨MH g j d.1,MI g e d.2⟩
def MG(d:b.m[0]?=h L){a}(e:Di k a=f)(g:bx [an.r W i k T] b aa a):bx ao az aa (MF L.v a):=by
 cases a with
 |q o=>exact MH d e g
 |Q n=>obtain⟨B,j,l⟩:=g;exact⟨B,j,MI d e l⟩
 |any=>trivial
end
def zl:p ResultVar->Bool
 |[]=>f
 |.tmp _::a=>zl a
 |.cell _ _::_=>m
def MJ{P}{x}:∀{rs:p ResultVar},zl rs=f->∃B,(∀a,(rs.mapM (h_ x)).run P a=Result.ok B a)/\dB P (rs.mapM (h_ x))
 |[],_=>⟨[],by simp,by rw[List.mapM_nil];exact .pure⟩
 |.tmp i::g,e=>by
  obtain⟨B,b,d⟩:=MJ (P:=P) (x:=x) (rs:=g) e;refine⟨x.tmps.getD i K::B,λa=>?_,?_⟩
  .simp only[oY,cI,h_,d6,c0,b]
  rw[oY];exact .bind .pure λ_=>.bind d λ_=>.pure
def mb.tmp{k}{fn}{hr}(s:mb P k hr aa b)(F:P.funcs[k]?=h fn)(C:zl fn.results.toList=f)(o:∀p t u,b.u p t=h u->b.a.cell? ⟨p,t,q⟩=h u):mb P k hr aa az:=by
 obtain⟨l,n,D,z,d,A,v⟩:=s;have g:d=fn:=M;subst g;let x:Act:={tmps:=hr.tmps,defers:=[]}
 obtain⟨B,k1,w⟩:=MJ (P:=P) (x:=x) C;have i:∀a,(d.results.mapM (h_ x)).run P a=Result.ok B.toArray a:=λa=>by grind[Array.mapM_eq_mapM_toList,Sem.run_map,Go.Result.andThen_ok]
 have e:∀a,(results d hr.tmps).run P a=.ok (if s:B.toArray.size=1 then B.toArray[0]else .tuple B.toArray) a:=λa=>by unfold results;rw[cI];refine(eI (λE=>Result.andThen E _) (i a)).trans ?_;simp
 have j:dB P (results d hr.tmps):=by
  unfold results;have g:dB P (d.results.mapM (h_ x)):=by rw[wW];exact .map w
  exact .bind g λ_=>.pure
 have r:=(v b.a o).1;rw[e]at r;cases r;exact⟨l,n,D,z,d,A,λa _=>⟨e a,λg y=>by rw[j a #[]]at y;grind⟩⟩
def Y.thaw{aO:ai P}[aO.b']{aT}{args}{res}{i}(A:Y aO aT args [] res [.r W i k T]){fn}(ak:P.funcs[aT]?=h fn)(ax:zl fn.results.toList=f)(bb:Di k res=f)(aM:∀x,x<k->c (T x)=i/\∀aQ∈T x,nj aQ=f):
  bk (ι:={S:fg×p Z // eg i k T S.2}) aO aT args [] (λS=>MF (cX S.1.1 k) res) (λS=>[.J (ck W i S.1.1 k S.1.2)]):=by
 refine⟨A.1,λaB B a2 F bq aS ae=>A.2 aB B a2 F bq aS λX bj az au w b d=>?_⟩;have a8:aB.m=[]:=jy F.len;have aZ:c az.m=1:=b.len;obtain⟨L,ba⟩:∃L,az.m=[L]:=by
  match ae':az.m with
  |[L]=>grind
  |[]=>grind
  |_::_::_=>grind
 have aP:az.m[0]?=h L:=M;obtain⟨ag,ah⟩:=b.box 0 _ L rfl aP;rcases ah with⟨⟨bd,aw⟩,o⟩|⟨j,cap,cells,ad,O,aj,bA⟩
 .subst aw;obtain⟨bc,cap,bl,a4,aV,bf,aA,_⟩:=o.b3;have G:cap=0:=aA a;subst G;let z:a5:={az with m:=[⟨.nilFunc,[]⟩]}
  have aW:eT az z:=⟨rfl,λ_ _ _ A=>A,λ_ _ _=>rfl,b.mem,λj D=>by grind⟩
  have aK:eg i 0 T []:=⟨by simp,λx s=>by omega,λx s=>by omega⟩
  refine .aV aW (ae ⟨(.nil bc,[]),aK⟩ X bj z (au.tmp ak ax b.mem) ?_ ?_ ?_)
  .have:=MG (ao:=[an.J (ck W i (.nil bc) 0 [])]) (az:=z) aP bb w;rw[a4]at this;exact this
  .refine⟨b.mem,a,λK aL n aE e=>?_,?_,by grind,λj D=>⟨(b.own j D).1,by grind⟩⟩
   .cases K with
    |zero=>cases aE;cases e;exact⟨λ_=>q,⟨a,by simp,by simp,a,a⟩,by simp,by simp,by simp⟩
    |succ K=>grind
   grind
  refine⟨d.size,d.a6,d.mem,d.bF,λn e j D=>?_,λK aL n aE=>by grind,d.os,d.tape,d.output,d.own⟩;grind
 .subst ad;have a_:j∈(⟨.slice (h ⟨j,0,q⟩) k cap,[j]⟩:Loc).al:=E;have aI:aB.a.heap.size<=j:=by
   rcases d.bV _ M j a_ with aa|⟨bo,aa,_⟩
   .exact aa
   grind
  have aU:j<az.a.heap.size:=b.lt _ M j a_;obtain⟨bw,aR,C,br,bh,bp,_,ab,a0⟩:=ag.b3;cases br;have a':c C=k*i:=ab.len;have a6:∀v U,C[v]?=h U->cells[v]?=h U:=λv U J=>by obtain⟨bx,a9,aH,bu⟩:=a0 v U J;cases aH;have:=b.mem _ _ _ bu;simp[aN,O]at this;simpa using this
  have bg:k*i<=c cells:=by rw[aj];exact gV _ bh
  have aJ:cells.take (k*i)=C:=mV;have a3:C++cells.drop (k*i)=cells:=Fv;have aK:eg i k T C:=by refine⟨a',λx s=>(aM x s).1,λx s bz aQ I=>?_⟩;obtain⟨U,R,aF⟩:=ab.rd x s bz aQ I;grind[u9]
  have H:∀aG∈C,dW aG=f:=λaG a7=>by
   obtain⟨v,J,rfl⟩:=hD a7;have aX:0<i:=M;have s:v / i<k:=si M;have bs:v / i*i+v % i=v:=uo v i;have I:v % i<c (T (v / i)):=by rw[(aM _ s).1];exact pZ _ aX
   obtain⟨U,R,aF⟩:=aK.b4 _ s _ _ (bI I);rw[bs,bI J]at R;cases R;exact(aF aB.u).cell
  have bn:∀g t l,aB.u g t=h l->g≠j:=λg t l av aH=>by have:=F.block av;omega
  let V:Mem:=λg t=>if g=j then q else az.u g t;let Q:a5:={az with m:=[],own:=λaG=>az.own aG∨aG=j}
  let aC:a5:={Q with u:=V}
  let z:a5:={az with m:=[⟨.nilFunc,[j]⟩],u:=V}
  have N:∀g t l,V g t=h l->az.u g t=h l:=λg t l r=>by grind
  have ar:eT az Q:=⟨rfl,λ_ _ _ A=>A,λ_ _ _=>rfl,b.mem,λg u=>by
   rcases u with(u|u)|⟨n,e,_⟩
   .grind
   .exact .inr ⟨_,by rw[ba];simp;rfl,by grind⟩
   grind⟩
  have aq:nP Q aC:=⟨rfl,rfl,rfl,N,λg t l r=>by grind⟩
  have bt:eT aC z:=⟨rfl,λ_ _ _ A=>A,λ_ _ _=>rfl,λg t l r=>b.mem _ _ _ (N _ _ _ r),λg u=>by grind⟩
  refine .aV ar (.b1 ai.b'.ok aq (.aV bt (ae ⟨(.row j cap,C),aK⟩ X bj z (au.tmp ak ax b.mem) ?_ ?_ ?_)))
  .exact MG (L:=⟨.slice (h ⟨j,0,q⟩) k cap,[j]⟩) aP bb w
  .refine⟨λg t l r=>b.mem _ _ _ (N _ _ _ r),a,λK aL n aE e=>?_,?_,λn e g u=>?_,λg u=>⟨(b.own g u).1,λn e=>?_⟩⟩
   .cases K with
    |zero=>
     cases aE;cases e;refine⟨λg=>if g=j then h (.cells (C++cells.drop (k*i)).toArray W (0,0))else q,⟨a,H,a',bh,bp,cells.drop (k*i),M,a⟩,λg t u=>M,λg=>?_,λg u t=>?_⟩
     .by_cases aH:g=j<;>simp[aH]
     grind
    |succ K=>grind
   .grind
   .grind
   simp[z]at e;subst e;have:=(b.own g u).2 _ (by rw[ba];simp;rfl);grind
  refine⟨d.size,d.a6,λg t l r=>?_,λg u a1 t=>?_,λn e g u=>?_,λK aL n aE=>by grind,d.os,d.tape,d.output,d.own⟩
  .simp only[z,V,bm (bn g t l r)];exact d.mem _ _ _ r
  .have:g≠j:=y;simp[z,V,bm this];exact d.bF g u a1 t
  grind
section
variable {r:ai P}
def g.iP{d:Prop}(j:∀b,bb n b->d)(k:d->g r D be (.code s::ar) .normal F n):g r D be (.code s::ar) .normal F n:=
 λb e i a=>k (j b a) b e i a
def g.fz{d:Prop}(j:∀b,bb n b->d)(k:d->g r D be (.ae all br::ar) .normal F n):g r D be (.ae all br::ar) .normal F n:=
 λb e i a=>k (j b a) b e i a
def ck.len{W}{l e d:Nat}{bN}{ag}(g:n[d]?=h (.J (ck W l bN e ag)))(b)(bO:bb n b):c ag=e*l/\e<=9223372036854775807/\(0<e->∃j a,bN=.row j a)/\∀i,bN=.nil i->e=0:=by
 have o:d<c b.m:=hV;obtain⟨p,k,_⟩:=bO.box d _ _ g (bI o);cases bN with
 |nil i=>obtain⟨_,_,r,rfl,_⟩:=k;grind
 |row j a=>obtain⟨_,_,r,s,t,_⟩:=k;grind
def g.jl(aQ:bn P ad)(E:Nat){e}{eH}{i}{bN}{ag}(cv:t.op=.call {callee:=.builtin .len,args:=#[l],argTypes:=dn})(M:dn[0]?=h o)(s:bW ad o=h e)(I:e.desc=.slice eH)(O:bF F l=cM (cX bN k))(u:n[E]?=h (.J (ck W i bN k ag)))(N:t.guard=q)(w:fa D t.dst=f)(v:g r D be (.ae all br::ar) .normal (fS t.dst (ax (.int .i64 k)) F) n):g r D be (.ae all (t::br)::ar) .normal F n:=by
 refine g.cF (ι:=Unit) (λ_=>ax (.int .i64 k)) (λ_=>n) N w (λp x J j=>?_) λ_=>v;obtain⟨_,z,_,K⟩:=ck.len u p j;have ae:=eJ J l;rw[O]at ae;have ae:=Rd.bj ae;have A:=(aQ o e s).run_underlying (Q:=p.a);rw[I]at A;have C:dn[0]?=h o:=M;have y:∃d b,cX bN k=.slice d k b:=by
  cases bN with
  |nil d=>rw[K d rfl];exact⟨d,0,a⟩
  |row R b=>exact⟨_,b,rfl⟩
 obtain⟨d,b,B⟩:=y;rw[B]at ae;refine⟨(),.value (.int .i64 k),p,.int .i64 k,QX,.inl a,Rd.int cQ,j,.refl _ _,?_⟩;have:(ac x.eval t).events P p.a #[]=#[]:=QX;rw[this];exact .nil
def u7:p O->Bool
 |[]=>f
 |.c b::a=>match nj b with|true=>u7 a|false=>m
 |_=>m
def m3(B:p Z)(a:p O):Prop:=c B=c a/\∀(d:Nat)b,a[d]?=h (O.c b)->∃e,B[d]?=h e/\∀g,Rd g e b
theorem m3.of{n}{b}:∀{B:p Z}{d:p O},u7 d=f->bM n b B d->m3 B d
 |[],[],_,_=>⟨rfl,λj l e=>by grind⟩
 |[],_::_,_,g=>g.elim
 |_::_,[],_,g=>g.elim
 |s::B,.c t::d,e,g=>by
  simp[u7]at e;cases k:nj t with
  |false=>grind
  |true=>
   simp[k]at e;obtain⟨o,r⟩:=m3.of e g.2;refine⟨by grind,λj l i=>?_⟩;cases j with
   |zero=>simp at i;subst i;exact⟨s,a,λu=>u9 k g.1⟩
   |succ j=>grind
 |_::_,.ptr _ _::_,e,_=>by exact cQ
 |_::_,.r _ _ _ _::_,e,_=>by exact cQ
 |_::_,.aQ _::_,e,_=>by exact cQ
 |_::_,.R _ _::_,e,_=>by exact cQ
 |_::_,.any::_,e,_=>by exact cQ
theorem bM.gn{n}{b}:∀{B:p Z}{d:p O},bM n b B d->∀g∈B,AM.dW g=f
 |[],[],_,g,e=>by grind
 |[],_::_,a,_,_=>a.elim
 |_::_,[],a,_,_=>a.elim
 |j::B,i::d,a,g,e=>by
  rcases fl.1 e with rfl|e
  .exact cw.cell a.1
  exact bM.gn a.2 g e
def ev.eL(aQ:bn P ad)(d){i cap}{ag}{new}{e}(ao:t.op=.store o l X)(Q:bW ad o=h e)(R:bF F l=cM (.pointer (h ⟨j,off,q⟩)))(ae:mm (bF F X)=h new)(V:c new=e.size)(O:u7 new=f)(w:n[d]?=h (.J (ck W i (.row j cap) k ag)))(Y:off+c new<=c ag):
  ev P D t F n (ι:={B:p Z // m3 B new}) (λ_=>.any) (λB=>n.set d (.J (ck W i (.row j cap) k (ag.take off++B.1++ag.drop (off+c B.1))))):=by
 intro s u J bO;have x:=eJ J l;rw[R]at x;have x:=Rd.bj x;have N:=uN ae (eJ J X);have U:d<c n:=(cO.1 w).1;have aA:d<c s.m:=hV;have S:=bI aA;generalize s.m[d]=L at S;obtain⟨aG,C,aL,aE,I⟩:=bO.box d _ L w S;obtain⟨r,aw,aM,T⟩:=ck.lookup C;obtain⟨aF,aO,av,G,aC,_⟩:=C;have ak:j∈L.al:=(aE j).2 M;have ah:=aL j _ aM;let B:=(u.eval X).cells.toList;have an:m3 B new:=m3.of O N;have au:c B=c new:=an.1;have ax:off+0+c B<=(ag++r).toArray.size:=M;have aj:=run_storeCells_at P j off W B 0 (ag++r).toArray s.a ah ax N.cell;simp only[j9]at aj;have az:(ag++r).take off++B++(ag++r).drop (off+c B)=(ag.take off++B++ag.drop (off+c B))++r:=M;rw[az]at aj;have ab:c (ag.take off++B++ag.drop (off+c B))=c ag:=M;have aa:=setRow_heap s.a j (ag++r).toArray ((ag.take off++B++ag.drop (off+c B))++r).toArray W (0,0) ah;have z:∀g,g≠j->(s.a.setRow j ((ag.take off++B++ag.drop (off+c B))++r).toArray).heap[g]?=s.a.heap[g]?:=λg A=>setRow_other s.a j g _ A;obtain⟨ai,t2⟩:=bO.b_ (d:=d) (j2:=ck W i (.row j cap) k (ag.take off++B++ag.drop (off+c B))) (cm:=L) (bh:=s.a.setRow j ((ag.take off++B++ag.drop (off+c B))++r).toArray) w S rfl E
  (λg A aK=>z g M) (λg A=>.inl A)
  ⟨λg=>if g=j then h (.cells ((ag.take off++B++ag.drop (off+c B))++r).toArray W (0,0))else q,⟨aF,λl R=>by grind[bM.gn],by grind,G,aC,r,by grind,rfl⟩,λg t A=>by simp_all,λg=>by simp_all⟩ a a a
 have H:(u.eval X).cells.size=e.size:=M;refine⟨⟨B,an⟩,.skip,_,K,?_,.inr ⟨a,a⟩,v,ai,t2,?_⟩
 .have ar:(storeCells ⟨j,off,q⟩ (u.eval X).cells.toList).run P s.a=_:=aj;simp[ac,ao,x,Instr.storeAt,Instr.sureAddr,storeVar,(aQ o e Q).bf,H,ar]
 intro y b;have aI:ac u.eval t=(do storeVar o ⟨j,off,q⟩ (u.eval X);pure .skip):=by simp[ac,ao,x,Instr.storeAt,Instr.sureAddr]
 rw[aI]at b;have aB:y∈(storeCells ⟨j,off,q⟩ (u.eval X).cells.toList).events P s.a #[]:=by
  simp[storeVar,aH,(aQ o e Q).bf,H,aJ,events_sizeOf,d8,hn,dh,cI,c0,Sem.events_pure]at b;generalize(storeCells ⟨j,off,q⟩ (u.eval X).cells.toList).run P s.a=aN at b;cases aN with
  |ok aR bh=>simpa using b
  |halt l bh=>simpa using b
 rcases nc (u.eval X).cells.toList 0 (ag++r).toArray s.a #[] ah ax N.cell y aB with aq|⟨aP,_,_,rfl⟩
 .grind
 exact ob (b8 S) ak (I j ak _)
def g.eL{ad}(aQ:bn P ad)(d){o}{l X}{W}{i k j cap off}{ag}{new}{e}(x:t.op=.store o l X)(a:bW ad o=h e)(z:bF F l=cM (.pointer (h ⟨j,off,q⟩)))(w:mm (bF F X)=h new)(u:c new=e.size)(v:u7 new=f)(b:n[d]?=h (.J (ck W i (.row j cap) k ag)))(s:off+c new<=c ag)(y:t.guard=q)(A:fa D t.dst=f)(p:∀B,m3 B new->g r D be (.ae all br::ar) .normal (fS t.dst .any F) (n.set d (.J (ck W i (.row j cap) k (ag.take off++B++ag.drop (off+c B)))))):g r D be (.ae all (t::br)::ar) .normal F n:=
 g.cF _ _ y A (ev.eL aQ d x a z w u v b s) λB=>p B.1 B.2
def g.swap(e w){j k:Z->(Nat->Option Obj)->Prop}(au:e≠w)(y:n[e]?=h (.J j))(A:n[w]?=h (.J k))(K:∀T p,j T p->T=.nilFunc)(ak:∀T p,k T p->T=.nilFunc)(V:g r D be (.code s::ar) .normal F ((n.set e (.J k)).set w (.J j))):g r D be (.code s::ar) .normal F n:=by
 refine g.aV (λo ax aa bO=>?_) V;have N:e<c n:=(cO.1 y).1;have O:w<c n:=(cO.1 A).1;have an:e<c o.m:=hV;have aq:w<c o.m:=hV;obtain⟨x,ad⟩:∃L,o.m[e]?=h L:=⟨_,bI an⟩;obtain⟨C,ag⟩:∃L,o.m[w]?=h L:=⟨_,bI aq⟩;have z:=bO.box e _ x y ad;have ab:=bO.box w _ C A ag;have aw:x.v=.nilFunc:=by obtain⟨p,G,_⟩:=z;grind
 have H:C.v=.nilFunc:=by obtain⟨p,G,_⟩:=ab;grind
 let l:a5:={o with m:=(o.m.set e C).set w x}
 have ae:∀b,((n.set e (.J k)).set w (.J j))[b]?=if b=w then h (.J j)else if b=e then h (.J k)else n[b]?:=λb=>by grind
 have W:∀b,l.m[b]?=if b=w then h x else if b=e then h C else o.m[b]?:=λb=>by grind
 have Y:∀L∈l.m,L∈o.m:=λL i=>by grind
 have t:fh n o ((n.set e (.J k)).set w (.J j)) l:=by
  refine⟨λ_ _ _ J=>J,λb U L aE i=>?_⟩;rw[ae,W];by_cases v:b=w
  .subst v;rw[A]at aE;cases aE;rw[ag]at i;cases i;exact⟨.J j,x,by simp,by simp,by show x.v=_;grind⟩
  by_cases Q:b=e
  .subst Q;rw[y]at aE;cases aE;rw[ad]at i;cases i;exact⟨.J k,C,by simp[v],by simp[v],by show C.v=_;grind⟩
  exact⟨U,L,by grind,by grind,.refl _ _⟩
 have X:cN n o ((n.set e (.J k)).set w (.J j)) l:=by exact⟨bC _,λ_ _ _=>rfl,λ_ _ _ J=>J,λ_ _ _ _=>rfl,λL J u d=>.inr ⟨L,Y L J,d⟩,t.box,rfl,rfl,rfl,rfl⟩
 refine⟨l,a,⟨aa.size,aa.defers.imp λ_ K=>K.mono t,λao=>(aa.aH ao).mono t bO.len⟩,⟨bO.mem,by simp[l,bO.len],?_,?_,λL i u d=>bO.lt L (Y L i) u d,λu d=>⟨(bO.own u d).1,λL i=>(bO.own u d).2 L (Y L i)⟩⟩,X⟩
 .intro b U L aE i;rw[ae]at aE;rw[W]at i;split at aE
  .rename_i v;rw[bs v]at i;cases aE;cases i;exact z
  rename_i v;rw[bm v]at i;split at aE
  .rename_i Q;rw[bs Q]at i;cases aE;cases i;exact ab
  rename_i Q;rw[bm Q]at i;exact(bO.box b U L aE i).cd t bO.len λu d=>⟨a,λ_=>rfl⟩
 intro b B E I R S u d M;rw[W]at R S;have key:∀b L,(if b=w then h x else if b=e then h C else o.m[b]?)=h L->o.m[if b=w then e else if b=e then w else b]?=h L:=λb L az=>by grind
 have:=bO.a3 _ _ E I (key b E R) (key B I S) u d M;by_cases ah:b=w<;>by_cases ai:B=w<;>by_cases aj:b=e<;>by_cases av:B=e<;>simp_all
def g.jw(aQ:bn P ad){e}{H T}(aB:t.op=.makeSlice o l X)(ag:bW ad o=h e)(aK:e.desc=.slice W)(aa:bW ad W=h a4)(aj:bF F l=ax (.int H k))(ak:bF F X=ax (.int T k))(j:k*a4.bytes<=140737488355328)(aT:k<=140737488355328)(ae:t.guard=q)(ab:fa D t.dst=f)(ao:∀A d,g r D be (.ae all br::ar) .normal (fS t.dst (cM (cX (.row A k) k)) F) (n++[.J (ck W a4.size (.row A k) k d)])):g r D be (.ae all (t::br)::ar) .normal F n:=by
 refine g.cF (ι:=Nat×p Z) (λw=>cM (cX (.row w.1 k) k)) (λw=>n++[.J (ck W a4.size (.row w.1 k) k w.2)]) ae ab (λb U aA s=>?_) λw=>ao w.1 w.2;have J:=eJ aA l;rw[aj]at J;have J:=b6 J;generalize aw:U.eval l=aL at J;cases J;have K:=eJ aA X;rw[ak]at K;have K:=b6 K;generalize z:U.eval X=aN at K;cases K;have an:=(aQ o e ag).eM;rw[aK]at an;obtain⟨B,R,S,aO,aP,az,bq,aR,aS⟩:=(aQ W a4 aa).c';have C:(B.bytes:Int)*(k:Int)<=281474976710656:=M;have aG:=run_make (P:=P) (w:=b.a) o W B R an S az H T k k y (Int.le_refl _) C y;simp[c1]at aG;let d:=(madeCells R.cells (k*B.size)).toList;have G:c d=k*a4.size:=by grind[size_madeCells]
 have aC:∀I∈R.cells.toList,dW I=f:=bM.gn (uh (n:=n) (b:=b) bq);have aF:c R.cells.toList=a4.size:=Nv;have aI:∀I∈d,dW I=f:=by intro I ai;simp[d,madeCells,Array.toList_map,k2]at ai;grind[Nat.mod_lt]
 have aE:ep (n++[.J (ck W a4.size (.row b.a.heap.size k) k d)]) {b with a:=b.a.alloc (.cells d.toArray W),m:=b.m++[⟨.nilFunc,[b.a.heap.size]⟩]} (.J (ck W a4.size (.row b.a.heap.size k) k d)) ⟨.nilFunc,[b.a.heap.size]⟩:=by
  refine⟨λO=>if O=b.a.heap.size then h (.cells (d++[]).toArray W (0,0))else q,⟨a,aI,G,bC _,by omega,[],by grind,a⟩,λO t C=>?_,λO=>?_,λO C t=>?_⟩
  .by_cases u:O=b.a.heap.size
   .subst u;simp[dH]at C;grind[lT]
   grind
  .by_cases u:O=b.a.heap.size<;>simp[u]
  simp at C;subst C;cases v:b.u b.a.heap.size t with
  |none=>rfl
  |some I=>have:=s.block v;omega
 have N:bb n {b with a:=b.a.alloc (.cells d.toArray W)}/\cN n b n {b with a:=b.a.alloc (.cells d.toArray W)}:=
  s.cY E (λA j=>iM b.a _ j) (λA j t=>rfl) (λA j t I v=>by have:=s.block v;omega) a a a
 obtain⟨V,Y⟩:=N.1.b0 N.2 rfl s aE (λA j=>by simp_all);refine⟨(b.a.heap.size,d),.value (.slice (h ⟨b.a.heap.size,0,q⟩) k k),_,_,?_,.inl a,Rd.val a,V,Y,?_⟩
 .simp[ac,aB,aw,z,aG,d]
 have u:ac U.eval t=(do pure (.value (<-Instr.makeSlice o (.int H k) (.int T k)))):=by simp[ac,aB,aw,z]
 rw[u];refine jh ?_;intro u x;have ah:∀i,(underlying o).run P i=.ok (.slice W) i:=λi=>by simp[underlying,an]
 have aH:∀i,(typeInfo W).run P i=.ok B i:=λi=>by simp[typeInfo,S]
 have L:∀i,(zeroValue W).run P i=.ok R i:=λi=>by simp[zeroValue,typeInfo,S,az]
 have aM:∀i,(sizeOf W).run P i=.ok B.size i:=λi=>by simp[sizeOf,typeInfo,S]
 have av:IntKind.i64.wrap (k:Int)=k:=by grind[IntKind.wrap_i64]
 have aq:¬(k:Int)<0:=y;have au:¬(281474976710656<(B.bytes:Int)*k):=y;simp[Instr.makeSlice,ah,aH,aM,asInt,asIntOf,av,aq,au]at x;rw[L]at x;simp[aJ,(dB.newRow (P:=P)) _ _,ite_self]at x;unfold askRoom at x;split at x
 .have:u=⟨.mark .noRoom,m,f⟩:=by simpa using x
  rw[this];exact .inl a
 simp at x
end
section
variable {i I:Nat}{bz:Z}
end
def Yk{a B:p α}{b}(g:b+c B<=c a)(d):(a.take b++B++a.drop (b+c B))[d]?=if b<=d/\d<b+c B then B[d-b]? else a[d]?:=by have e:c (a.take b)=b:=M;grind
def eg.ff{i}{d:Nat->p N}{ag}{new}(l:eg i k T ag)(e w)(bp:e<k)(r:m3 B new)(D:w+c new<=i)(A:∀a,a<k->a≠e->d a=T a)(u:c (d e)=i)(o:∀b g,(d e)[b]?=h g->(w<=b/\b<w+c new/\new[b-w]?=h (O.c g))∨(¬(w<=b/\b<w+c new)/\(T e)[b]?=h g)):eg i k d (ag.take (e*i+w)++B++ag.drop (e*i+w+c B)):=by
 have J:e*i+i<=k*i:=Ft;have I:=r.1;have E:=l.len;have s:e*i+w+c B<=c ag:=y;refine⟨by grind,λa j=>?_,λa j b g z=>?_⟩
 .by_cases n:a=e
  .grind
  rw[A a j n];exact l.d' a j
 rw[Yk s];by_cases n:a=e
 .subst n;rcases o b g z with⟨cS,dp,C⟩|⟨cS,dp⟩
  .rw[bs y,show a*i+b-(a*i+w)=b-w by omega];exact r.2 _ g C
  rw[bm y];exact l.b4 a j b g dp
 have x:(T a)[b]?=h g:=M;have F:b<i:=by rw[<-l.d' a j];grind
 rw[bm ?_]
 .exact l.b4 a j b g x
 rcases Nat.lt_or_gt_of_ne n with v|t
 .have:a*i+i<=e*i:=by rw[<-oW];exact gV _ v
  omega
 have:e*i+i<=a*i:=by rw[<-oW];exact gV _ t
 omega
def eg.gD{i}{a:Nat->p N}{ag}(g:eg i k T ag)(t:∀b,b<k->a b=T b)(u:c (a k)=i)(x:c B=i)(A:∀(d:Nat)e,(a k)[d]?=h e->∃n,B[d]?=h n/\∀o,Rd o n e):eg i (k+1) a (ag++B):=by
 have v:=g.len;refine⟨by grind,λb l=>?_,λb l d e z=>?_⟩
 .by_cases s:b=k
  .grind
  rw[t b y];exact g.d' b y
 by_cases s:b=k
 .grind
 have j:b<k:=y;have r:(T b)[d]?=h e:=M;have w:d<i:=by rw[<-g.d' b j];grind
 have:b*i+i<=k*i:=by rw[<-oW];exact gV _ j
 rw[ky y];exact g.b4 b j d e r
def pu(b:p (Nat×bv))(a:bH):p ResultVar->Option (p z)
 |[]=>h []
 |.tmp j::i=>match pu b a i with
  |some g=>h (look a j::g)
  |none=>q
 |.cell d j::i=>match pu b a i with
  |some g=>match look a d with
   |.q (.aq (.c (.O e)))=>match bW b j with
    |some l=>match g' l (e.map O.c)with
     |some k=>h (.q k::g)
     |none=>q
    |none=>q
   |_=>q
  |none=>q
def DL{P}{ad}(aQ:bn P ad){D}{n}{b}{F}{V}(ab:bV D n b F V):∀{S:p ResultVar}{d:p z},pu ad F S=h d ->
  ∃B,b4 n b B d/\∀Q,(∀j A T,b.u j A=h T->Q.cell? ⟨j,A,q⟩=h T)->(S.mapM (h_ V)).run P Q=Result.ok B Q/\∀o,∀y∈(S.mapM (h_ V)).events P Q o,y∈o∨∃j A T,y=⟨.cell ⟨j,A,q⟩,m,m⟩/\b.u j A=h T
 |[],d,l=>by cases l;exact⟨[],v,λQ _=>⟨by simp,λo y r=>.inl (by simpa using r)⟩⟩
 |.tmp x::ao,d,l=>by
  simp[pu]at l;cases W:pu ad F ao with
  |none=>grind
  |some aK=>
   simp[W]at l;subst l;obtain⟨B,ag,aM⟩:=DL aQ ab W;refine⟨V.tmps.getD x K::B,⟨ab.aH x,ag⟩,λQ C=>?_⟩;obtain⟨k1,R⟩:=aM Q C;refine⟨by simp[oY,cI,h_,d6,c0,k1],λo y r=>R o y ?_⟩;simpa[oY,h_,k1]using r
 |.cell u x::ao,d,l=>by
  simp[pu]at l;cases W:pu ad F ao with
  |none=>grind
  |some aK=>
   simp[W]at l;have Z:=ab.aH u;generalize look F u=aP at l Z;split at l
   case h_2=>cases l
   rename_i e;cases I:bW ad x with
   |none=>grind
   |some t=>
    simp[I]at l;cases N:g' t (e.map O.c)with
    |none=>grind
    |some ah=>
     simp[N]at l;subst l;obtain⟨B,ag,aM⟩:=DL aQ ab W;have G:=b6 Z;generalize aF:V.tmps.getD u K=aN at G;cases G;rename_i j i X J av;let U:=(aD (c e)).map X;have H:bM n b U (e.map O.c):=by
      have key:∀k d,(∀g aa,d[g]?=h aa->Rd b.u (X (k+g)) aa)->bM n b ((aD (c d)).map λg=>X (k+g)) (d.map O.c):=by
       intro k d;induction d generalizing k with
       |nil=>intro _;trivial
       |cons aI d ak=>
        intro Y;rw[fj,wM];refine⟨Y 0 aI a,?_⟩;have:=ak (k+1) (λg aa w=>by have:=Y (g+1) aa M;grind);grind[Function.comp_def]
      have:=key 0 e M;grind
     have az:∀g s,U[g]?=h s->b.u j (i+g)=h s:=λg s w=>by
      simp[U,m7]at w;by_cases aw:g<c e
      .simp[aw]at w;subst w;exact J g e[g] (bI aw)
      grind
     let aO:au:={b.a with heap:=b.a.heap}
     have ax:∃s,er n b s ah/\∀Q,(∀j A T,b.u j A=h T->Q.cell? ⟨j,A,q⟩=h T)->(loadVar x ⟨j,i,q⟩).run P Q=.ok s Q:=by
      have ae:=aQ x t I;cases E:t.agg<;>simp[g',E]at N
      .cases ar:c6 0 (e.map O.c)with
       |none=>grind
       |some aG=>
        simp[ar]at N;subst N;obtain⟨s,aj,aC⟩:=H.get (ei ar);refine⟨s,aC,λQ C=>?_⟩;have:=C _ _ _ (az 0 s aj);simp[loadVar,cI,ae.eo,c0,E];grind[run_load]
      cases ar:mQ t.size (e.map O.c)with
      |none=>grind
      |some r0=>
       simp[ar]at N;subst N;obtain⟨an,aL⟩:=tJ ar;have aq:=H.take t.size;rw[<-an]at aq;have ai:c (U.take t.size)=t.size:=M;refine⟨.agg (U.take t.size).toArray,⟨U.take t.size,a,aq⟩,λQ C=>?_⟩;have L:=run_loadCells_list (P:=P) Q ⟨j,i,q⟩ (U.take t.size) (λg s w=>by grind[gM]);rw[ai]at L;simp[loadVar,cI,ae.eo,c0,E];simp[ae.bf,L]
     obtain⟨s,aB,aE⟩:=ax;refine⟨s::B,⟨aB,ag⟩,λQ C=>?_⟩;obtain⟨k1,R⟩:=aM Q C;have aA:(h_ V (.cell u x))=loadVar x ⟨j,i,q⟩:=by simp[h_,aF,asAddr]
     refine⟨by grind[Go.Sem.run_bind,Go.Sem.run_pure,Go.Result.andThen_ok],λo y r=>?_⟩;rw[oY,aA]at r;simp[aH,aE Q C,aJ,k1,Sem.events_pure]at r;rcases R _ y r with r|r
     .rcases C' r with r|r
      .grind
      obtain⟨g,w,rfl⟩:=o7 (aQ x t I) (Q:=Q) (k:=c e) (λg w=>⟨X g,C _ _ _ (J g e[g] (bI w))⟩) (by have:=r3 N;grind) y r;exact .inr ⟨j,i+g,X g,a,J g e[g] (bI w)⟩
     grind
theorem oO.e'(aQ:bn P ad){fn}{bg}{o}(u:pu ad F fn.results.toList=h bg)(l:pf bg=h o):oO P fn F o:=by
 intro z A x g s;obtain⟨B,j,k⟩:=DL aQ s u;refine⟨_,JR l j,λe t=>?_⟩;obtain⟨k1,v⟩:=k e t;have i:(fn.results.mapM (h_ g)).run P e=Result.ok B.toArray e:=QZ;have r:∀a,∀d∈(fn.results.mapM (h_ g)).events P e a,d∈a∨∃n p y,d=⟨.cell ⟨n,p,q⟩,m,m⟩/\x.u n p=h y:=by rw[wW];intro a d b;exact v a d (by simpa using b)
 constructor
 .unfold results;rw[cI];refine(eI (λw=>Result.andThen w _) (Eq.trans ?_ i)).trans ?_
  .congr 2
  simp
 intro d b;have C:d∈(fn.results.mapM (h_ g)).events P e #[]:=by unfold results at b;rw[aH]at b;change d∈((fn.results.mapM (h_ g)).run P e).evThen ((fn.results.mapM (h_ g)).events P e #[]) _ at b;rw[i]at b;simpa using b
 grind
section
variable {r:ai P}
def ts(i:p (Nat×bv))(e:p ResultVar)(b:p Nat)(g:bH)(a:z):Option (p Prop):=
 match pu i g e with
 |some d=>match pf d with
  |some j=>match hI (c b) a with
   |true=>kk j (e7 b a)
   |false=>q
  |none=>q
 |none=>q
def g.cp(aQ:bn P ad){fn}{d}{res}(aO)(e:ts ad fn.results.toList aO F res=h ab)(o:U ab)(l:dv aO n=h ao)(k:l2 ao=f)(j:e6 aO=f)(i:∀b,b<d->aO[b]?=h b):
  g r D (kZ P fn d res ao) (.code .ret::ar) .normal F n:=by refine g.ret ⟨.inl a,aO,?_⟩;unfold ts at e;grind[oO.e']
def Y.bE{j}{fn}{args}{res}(i:P.funcs[j]?=h fn)(e:(fn.name== "runtime.NumGoroutine")=m)(d:fn.body=h s)(l:ay args.length fn.ntmps=f)(o:kw args n->g r fn.ntmps (kZ P fn n.length res ao) [.code s] .normal (hZ 0 args) n):Y r j args n res ao:=by refine⟨⟨fn,i,e,by grind⟩,λk B b a=>?_⟩;have:=bk.hg (r:=r) (ι:=Unit) (ao:=λ_=>ao) (res:=λ_=>res) i e d (e' l) (bY.mono (g.aW (o ⟨k,B,b,a⟩)) λ_ _ _ p=>⟨(),p⟩);exact this.toY.2 k B b a
def bT.mk{fn}{d}{res}(aO)(e:pv fn.results.toList aO F res=h ab)(l:U ab)(k:dv aO n=h ao)(j:l2 ao=f)(i:e6 aO=f)(g:∀b,b<d->aO[b]?=h b):bT fn d res ao .ret F n:=by refine⟨.inl a,aO,?_⟩;unfold pv at e;grind
end
def Gc{u:ai P}{j:aK}{i}{x}{br}{E}(I:j.kind≠.early)(o:aC[e]?=h t)(W:aV t (yielded aC x.tmps)=f)(F:bb n b)(S:∀v,(ac x.eval t).run P v=.ok (.enter E B.toArray) v)(R:∀v,(ac x.eval t).events P v #[]=#[])(V:bk u E cR n res aL)(K:b4 n b B cR)(M:∀l r g,bx (aL l) g r (res l)->bb (aL l) g->dc n b (aL l) g->cb u bq (G (j.M (x.put t.dst r) (.inRegion aC br::i)) ah) g):
  cb u bq (G (j.M x (.inRegion aC (e::br)::i)) ah) b:=by
 obtain⟨_,Q⟩:=V;refine .next a λD U=>?_;have C:=u.bM U;have z:=F.rely C;have J:b4 n D B cR:=K.mono C.aR.ext F.len;refine⟨_,D,_,tz o W I (S D.a),?_,Q _ B J z bq _ λl N r T y k d p=>?_⟩
 .refine⟨⟨n,n,z,z,.refl _ _⟩,ds.seen ?_⟩;rw[R];exact .nil
 refine uA (ah:=ah) (s:=j.M x (.inRegion aC (e::br)::i)) d y λO w=>?_;have A:=qk (j:=j) (x:=x) (i:=i) aC e br r;rw[o]at A;simp only[n0]at A;rw[A];exact M l r O (k.mono w.aR.ext d.len) (d.rely w) (C.aR.trans (p.trans w.aR))
def g.cJ{s:ai P}{V:a3}(Y:bk s V cR n res aL)(aH:t.guard=q)(o:t.op=.call {callee:=.value cP,args:=ag,argTypes:=dn})(r:gN (bF F cP)=h (V,cap))(aA:lX (ag.toList.map (bF F)++e0 cap) cR=h ab)(ah:U ab)(an:fa D t.dst=f)(az:∀d,g s D be (.ae all br::ar) .normal (fS t.dst (res d) F) (aL d)):g s D be (.ae all (t::br)::ar) .normal F n:=by
 intro aa S p e aq J v ao idx j a A;cases idx with
 |nil=>exact a.elim
 |cons aJ idx=>
 obtain⟨B,a⟩:=a;have Z:=eJ p cP;unfold gN at r;split at r
 case h_2=>cases r
 case h_1 u0 uM he=>
  cases r;rw[he]at Z;have W:=b6 Z;generalize G:S.eval cP=aw at W;cases W with
  |fn x b E l av w ax y aF K=>
   have z:x=[]:=jy E;subst z;have aB:b4 n aa b (e0 cap):=qa (λd au C=>⟨w d,y d M,K d au C⟩) l;have aE:b4 n aa (ag.toList.map S.eval++b) cR:=s' aA ah ((m2 (eJ p) ag.toList).append aB);obtain⟨fn,ad,X,T⟩:=Y.1;refine Gc j B (iV aH) e (λR=>(mK o ad X T G R).1) (λR=>(mK o ad X T G R).2) Y aE λd aK Q I k i=>?_;refine az d Q _ ?_ k aq J v ao idx j a λaj O ak u aC L H ae=>A aj O ak u aC L H (i.trans ae);have N:=k9 an;cases aI:t.dst with
   |none=>exact p.mono i e.len
   |some aG=>exact(p.mono i e.len).put (N aG aI) I
def LM{n:Type}{d}{l}:∀{a:p Nat}{e i:p n},dv a e=h i->d∉a->dv a (e.set d l)=h i
 |[],e,i,b,_=>b
 |o::a,e,i,b,j=>by
  simp[fl,not_or]at j;simp[dv,ld]at b⊢;rw[kA j.1];cases g:e[o]? with
  |none=>simp[g]at b
  |some s=>
   simp[g]at b⊢;cases k:dv a e with
   |none=>simp[k]at b
   |some r=>rw[LM k j.2];simp only[k]at b;exact b
def J'{i}{d}(b:ed i d=m):i∉d:=λa=>by rw[vo a]at b;cases b
def yC:Option (Tmp×E1)->p ResultVar
 |none=>[]
 |some a=>[.tmp a.1]
def Kw(a:p O):Option (Tmp×E1)->z
 |none=>.q (.agg a)
 |some b=>.Q [.agg a,b.2]
def uj(w:p (Nat×bv))(fn:Func)(x:Nat)(b:z)(i:p an):fq:=λt s d=>
 (t=.ret∨t=.normal)/\∃a n v e u k g j,∃o:Option (Tmp×E1),(∀r,o=h r->look s r.1=.q r.2)/\fn.results.toList=.cell u k::yC o/\bW w k=h g/\g.agg=f/\c e=g.size/\look s u=aG n 0/\d[n]?=h (.cells v e)/\n∉a /\
  kk (Kw e o) (e7 a b)=h j/\U j/\hI (c a) b=f/\dv a d=h i/\l2 i=f/\e6 a=f/\(∀l,l<x->a[l]?=h l)
def bk.jE{r:ai P}(aQ:bn P ad){a2}{fn}{args}{ao:ι->p an}(rB:P.funcs[a2]?=h fn)(aP:(fn.name== "runtime.NumGoroutine")=m)(cT:fn.body=h s)(bR:args.length<=fn.ntmps)(a4:∀b b',bV fn.ntmps n b (hZ 0 args) b'->bb n b->∀j cf S (aZ:ak->a5->Prop),j.kind≠.early->j.roundOf=q ->
  (∀C ae I az a0,(∃u,uj ad fn (c n) (res u) (ao u) C ae I)->bV fn.ntmps I az ae a0->bb I az->dc n b I az->kG r aZ j cf S C a0 az)->cb r aZ (G (j.M b' (.code s::cf)) S) b):bk r a2 args n res ao:=by
 refine⟨⟨fn,rB,aP,by rw[cT];rfl⟩,λb B bT bP aZ S bL=>?_⟩;obtain⟨bQ,bO⟩:=b4.get bT;let j:aK:={fn:=a2,tmps:=#[],todo:=[],defers:=[],mode:=.run,kind:=.normal,roundOf:=q}
 have cg:Frame.enter P a2 B.toArray .normal=j.M {tmps:=B.toArray++Array.replicate (fn.ntmps-B.toArray.size) K,defers:=[]} [.code s]:=Nn;rw[cg];refine a4 b {tmps:=B.toArray++Array.replicate (fn.ntmps-B.toArray.size) K,defers:=[]} ⟨by simp;omega,⟨[],v⟩,λaJ=>?_⟩ bP j [] S aZ (by simp[j]) rfl ?_
 .rw[yt];simp only[gX,dH,so];have:=bO aJ;rcases dY aJ (c B) with cc|ca
  .have C:(B.toArray++Array.replicate (fn.ntmps-B.toArray.size) K).getD aJ K=(B[aJ]?).getD K:=Fp;rw[C];exact this
  rw[wN y];trivial
 .rintro C ae aL e jw ⟨aj,V,aO,d,W,aI,aJ,ty,it,ab,t,bW,aV,aW,tm,DD,bX,bf,bY,bF,bG,bH,a6,a8,bJ,cn⟩ b3 J bg;obtain⟨a7,a9⟩:=K4 a8;have O:=b3.aH aJ;rw[bX]at O;obtain⟨_,L,dU,D,a',aR⟩:=O;obtain⟨ck,A,a_,cj,b9,cp⟩:=J.box d _ L bf D;subst a_;cases a';let cd:Mem:=λz t=>if z=dU then A[t]? else e.u z t;have br:∀t w,A[t]?=h w->e.a.cell? ⟨dU,t,q⟩=h w:=λt w bS=>by simpa[aN,cj]using bS
  have aC:∀z t w,e.u z t=h w->cd z t=h w:=λz t w X=>by grind
  have av:∀z t w,cd z t=h w->e.a.cell? ⟨z,t,q⟩=h w:=λz t w X=>by
   by_cases C:z=dU
   .grind
   simp[cd,C,dh]at X;exact J.mem z t w X
  obtain⟨U,H⟩:=J.b9 (cd:=cd) (bh:=e.a) (d':=.x) (cm:=⟨.pointer (h ⟨dU,0,q⟩),[]⟩) bf D rfl (bC _) (λ_ _ _=>rfl) (λz _ aM t=>by grind) aC av E rfl rfl rfl v
  have aq:eT e ⟨e.m.set d ⟨.pointer (h ⟨dU,0,q⟩),[]⟩,cd,e.a,e.own⟩:=⟨rfl,aC,λz aM t=>by
   have:z≠dU:=by rintro rfl;exact aM _ (b8 D) E
   simp[cd,this,dh],av,λz aM=>by grind⟩
  have bD:bV fn.ntmps (aL.set d .x) ⟨e.m.set d ⟨.pointer (h ⟨dU,0,q⟩),[]⟩,cd,e.a,e.own⟩ ae jw:=⟨b3.size,b3.defers.imp λ_ bE=>bE.mono H.ext,λF=>(b3.aH F).mono H.ext J.len⟩
  have ag:=LM (l:=an.x) a6 bY;have aS:bM (aL.set d .x) ⟨e.m.set d ⟨.pointer (h ⟨dU,0,q⟩),[]⟩,cd,e.a,e.own⟩ A aI:=b9.mono H.ext J.len;have b1:=bg.trans (H.tooU J);let bq:Z:=match t with|none=>.agg A.toArray|some bd=>.tuple #[.agg A.toArray,jw.tmps.getD bd.1 K]
  have b7:∀Q,(∀j t F,cd j t=h F->Q.cell? ⟨j,t,q⟩=h F)->(results fn jw.tmps).run P Q=.ok bq Q/\∀C∈(results fn jw.tmps).events P Q #[],∃j t F,C=⟨.cell ⟨j,t,q⟩,m,m⟩/\cd j t=h F:=by
   intro Q aU;have bs:=aQ ty it aW;have aG:c A=it.size:=by rw[b9.cM,DD]
   have au:∀u w,A[u]?=h w->Q.cell? ⟨dU,0+u,q⟩=h w:=λu w x=>aU _ _ _ M;have a:=run_loadCells_list (P:=P) Q ⟨dU,0,q⟩ A (λu w x=>by rw[gM];exact au u w x);rw[aG]at a;have aB:(loadVar ty ⟨dU,0,q⟩).run P Q=.ok (.agg A.toArray) Q:=by simp[loadVar,cI,bs.eo,c0,tm];simp[bs.bf,a]
   have b_:fn.results=(ResultVar.cell aJ ty::yC t).toArray:=by apply Array.ext';simpa using aV
   have b6:asAddr (jw.tmps[aJ]?.getD K)=(pure ⟨dU,0,q⟩:Sem Addr):=by rw[<-hk,aR];rfl
   refine⟨by cases t<;>simp[results,b_,b6,aB,bq,yC],λC V=>?_⟩;have ba:C∈(loadVar ty ⟨dU,0,q⟩).events P Q #[]:=by cases t<;>simpa[results,b_,b6,aB,yC]using V
   obtain⟨u,x,rfl⟩:=o7 bs (Q:=Q) (k:=c A) (λu x=>⟨_,au u A[u] (bI x)⟩) (by rw[tm,aG];simp) C ba;exact⟨dU,0+u,A[u],rfl,by grind⟩
  have fin:∀o g,cU (⟨e.m.set d ⟨.pointer (h ⟨dU,0,q⟩),[]⟩,cd,e.a,e.own⟩:a5) g->o.fn=a2->o.tmps=jw.tmps->o.defers=jw.defers->o.mode=.returning->o.kind=.normal->cb r aZ (G o S) g:=by
   intro o g i bw bz bA a1 bB;have a3:=bD.rely i U;have aX:=U.rely i;have aa:=b1.trans i.aR;have bZ:bx (aL.set d .x) g bq (Kw aI t):=by
    have aF:=aS.mono i.aR.ext U.len;cases t with
    |none=>exact⟨A,rfl,aF⟩
    |some bd=>
     have bc:=a3.aH bd.1;rw[bW bd rfl]at bc;exact⟨[.agg A.toArray,jw.tmps.getD bd.1 K],rfl,⟨A,rfl,aF⟩,bc,v⟩
   obtain⟨ah,bp⟩:=vP (kJ:=g.m) ag aX.len;have b0:=(pg bF bG bZ).sub ag bp bH;obtain⟨cl,bu⟩:=l3 ag;obtain⟨d1,d2⟩:=l3 bp;have bt:∀L∈ah,L∈g.m:=DT bp;have aw:bb (ao aj) {g with m:=ah}:=by obtain⟨T,_⟩:=aX.sub ag bp a7 bJ;refine⟨T.mem,T.len,λu bo L aE D=>?_,T.a3,T.lt,λj cT=>⟨(aX.own j cT).1,λL D=>(aX.own j cT).2 L (bt L D)⟩⟩;exact ep.plain (n:=ao aj) (b:={g with m:=ah,own:=oA g ah}) (az:={g with m:=ah}) rfl rfl (vG a7 bo (b8 aE)) (T.box u bo L aE D)
   have bj:dc n b (ao aj) {g with m:=ah}:=by refine⟨aa.size,aa.a6,aa.mem,aa.bF,λL D j cT=>aa.bV _ (bt L D) j cT,λd bo L aE D=>?_,aa.os,aa.tape,aa.output,aa.own⟩;have bQ:d<c n:=(cO.1 aE).1;obtain⟨d',cm,cq,cr,cu⟩:=aa.box d bo L aE D;grind
   obtain⟨bU,aA⟩:=a3.defers;refine AR bU o g _ aX.dZ M a1 (by rw[bA];exact aA.gE aX) λY R=>?_;have N:cU {g with m:=ah} {Y with m:=ah}:=by
    refine⟨rfl,R.u,R.own,R.size,λj cT=>R.a6 j (cT.imp id ?_),R.mem,R.os,R.tape,R.output⟩;rintro⟨L,D,cT⟩;obtain⟨u,x,rfl⟩:=hD D;have ax:u<c aO:=by rw[<-d1];exact x
    obtain⟨cv,bm,b5⟩:=d2 u _ (bI ax);obtain⟨l,b2,bl⟩:=bu u _ (bI ax);rw[bI x]at bm;cases bm;refine⟨_,_,b5,λbN=>?_,cT⟩;rw[aA.e4 _ bN]at bl;cases bl;exact vr a9 _ (b8 b2) rfl
   have bK:eT Y {Y with m:=ah}:=⟨rfl,λ_ _ _ a4=>a4,λ_ _ _=>rfl,λj t w X=>R.mem j t w (by rw[<-R.u];exact X),λj cT=>cT.imp id λ⟨L,D,cT⟩=>⟨L,by rw[R.m];exact bt L D,cT⟩⟩
   have ar:g.u=cd:=i.u;refine .aV bK (bL aj _ bq _ ⟨bw,a1,rfl,bB,fn,by grind,λQ aU=>?_⟩ (b0.mono N.aR.ext aw.len) (aw.rely N) (bj.trans N.aR));show(results fn o.tmps).run P Q=_/\∀C∈(results fn o.tmps).events P Q #[],_;rw[bz];have aH:∀j t F,cd j t=h F->Q.cell? ⟨j,t,q⟩=h F:=λj t F a4=>aU j t F (by show Y.u j t=h F;rw[R.u,ar];exact a4);refine⟨(b7 Q aH).1,λC V=>?_⟩;obtain⟨j,t,F,aV,aW⟩:=(b7 Q aH).2 C V;exact⟨j,t,F,aV,by show Y.u j t=h F;rw[R.u,ar];exact aW⟩
  rcases V with rfl|rfl
  .intro pre;exact .aV aq (.ctl U rfl (λ_=>DX rfl) λg i=>fin _ g i rfl rfl (hY _) rfl rfl)
  exact .aV aq (.ctl U rfl (λ_=>DV rfl) λg i=>fin _ g i rfl rfl (hY _) rfl rfl)
def bk.bE{r:ai P}(aQ:bn P ad){j}{fn}{args}{ao:ι->p an}(u:P.funcs[j]?=h fn)(t:(fn.name== "runtime.NumGoroutine")=m)(b:fn.body=h s)(C:ay args.length fn.ntmps=f)(D:kw args n->g r fn.ntmps (λA w i=>∃v,uj ad fn n.length (res v) (ao v) A w i) [.code s] .normal (hZ 0 args) n):bk r j args n res ao:=by refine⟨⟨fn,u,t,by rw[b];rfl⟩,λe B d a=>?_⟩;have:=bk.jE (r:=r) (ao:=ao) (res:=res) aQ u t b (e' C) λI y j l z E k x o _ F=>(show bY r fn.ntmps s _ (hZ 0 args) n from g.aW (D ⟨e,B,d,a⟩)) I y j l z E k x o F;exact this.2 e B d a
def bM.set{n}{b}{j}{aa}:∀{B:p Z}{a:p O}{i:Nat},bM n b B a->B[i]?=h aa->cw n b aa j->bM n b B (a.set i j)
 |[],[],_,_,d,_=>by grind
 |[],_::_,_,d,_,_=>d.elim
 |_::_,[],_,d,_,_=>d.elim
 |l::B,k::a,0,d,e,g=>by simp at e;subst e;exact⟨g,d.2⟩
 |l::B,k::a,i+1,d,e,g=>⟨d.1,bM.set d.2 M g⟩
section
variable {r:ai P}
def g.cn(d w)(W i)(b:Nat->p N){eH}{ah}{f_}{au:Nat->p N}(A:c6 d n=h (.cells eH ah))(x:c6 w ah=h (.c (.S f f_ 0 au)))(C:g r D be (.code s::ar) .normal F ((n++[an.r W i 0 b]).set d (.cells eH (ah.set w (.r (c n) i 0 b))))):g r D be (.code s::ar) .normal F n:=by
 refine g.aV (λe az K bO=>?_) C;have aE:=ei A;have X:=ei x;have G:d<c n:=(cO.1 aE).1;have ai:d<c e.m:=hV;have I:=bI ai;generalize e.m[d]=L at I;obtain⟨u,B,av,Z,S,U⟩:=bO.box d _ L aE I;obtain⟨j,Y,V⟩:=S.get X;have k:Rd e.u j (.S f i 0 b):=(Rd.fT (i:=f_) (f_:=i) (.inr a) V).cB λR ad=>by omega
 have ao:ep (n++[an.r W i 0 b]) {e with m:=e.m++[⟨j,[]⟩]} (.r W i 0 b) ⟨j,[]⟩:=⟨k.ef,.inl ⟨⟨rfl,rfl⟩,k⟩⟩;obtain⟨H,O⟩:=bO.b0 (.refl _ _) rfl bO ao E
 have z:(n++[an.r W i 0 b])[d]?=h (.cells eH ah):=M;have ak:(e.m++[(⟨j,[]⟩:Loc)])[d]?=h L:=M;have ag:(e.m++[(⟨j,[]⟩:Loc)]).set d L=e.m++[⟨j,[]⟩]:=mV;have aw:fD (.cells eH ah) L (.cells eH (ah.set w (.r (c n) i 0 b))) L:=rfl;have ax:c n≠d:=y;have ab:ep ((n++[an.r W i 0 b]).set d (.cells eH (ah.set w (.r (c n) i 0 b)))) ⟨(e.m++[(⟨j,[]⟩:Loc)]).set d L,e.u,e.a,e.own⟩ (.cells eH (ah.set w (.r (c n) i 0 b))) L:=by
  rw[ag];refine⟨u,B,av,Z,?_,U⟩;have v:fh (n++[an.r W i 0 b]) {e with m:=e.m++[⟨j,[]⟩]} ((n++[an.r W i 0 b]).set d (.cells eH (ah.set w (.r (c n) i 0 b)))) {e with m:=e.m++[⟨j,[]⟩]}:=by
   refine⟨λ_ _ _ o=>o,λR bU cm Q lQ=>?_⟩;by_cases aA:d=R
   .grind
   exact EV
  have aa:bM (n++[an.r W i 0 b]) {e with m:=e.m++[⟨j,[]⟩]} B ah:=S.mono O.ext bO.len;refine bM.set (aa.mono v H.len) Y ?_;refine⟨k.ef,by simp,λT ae aj kH o=>?_⟩;rw[kA y,hl y,uu]at o;cases o;refine⟨bC _,λ_=>⟨⟨j,[]⟩,?_,a⟩⟩;exact tX
 obtain⟨aM,J⟩:=H.b9 (cd:=e.u) (bh:=e.a) (cm:=L) z ak aw (bC _) (λ_ _ _=>rfl) (λ_ _ _ _=>rfl) (λ_ _ _ o=>o) bO.mem (λu t=>⟨.inl t,bO.lt L (b8 I) u t⟩) rfl rfl rfl ab;have l:=O.trans J;exact⟨⟨(e.m++[(⟨j,[]⟩:Loc)]).set d L,e.u,e.a,e.own⟩,a,⟨K.size,K.defers.imp λ_ k=>k.mono l.ext,λaq=>(K.aH aq).mono l.ext bO.len⟩,aM,l⟩
end
section
variable {r:ai P}
def g.fb(o)(W i)(dI:Nat->p N){e}{t:Nat->p N}(v:look F o=ax (.S f e 0 t))(j:g r D be (.code s::ar) .normal ((o,cy (c n) (.S 0 i 0 0))::F) (n++[.h W i 0 dI])):g r D be (.code s::ar) .normal F n:=by
 refine g.aV (λk w a bO=>?_) j;have C:=a.aH o;rw[v]at C;obtain⟨u,b⟩:=bO.b0 (bU:=.h W i 0 dI) (L:=⟨.slice q 0 0,[]⟩) (.refl _ _) rfl bO (.inl ⟨rfl,rfl⟩) E;refine⟨{k with m:=k.m++[⟨.slice q 0 0,[]⟩]},rfl,⟨a.size,a.defers.imp λ_ d=>d.mono b.ext,λl=>?_⟩,u,b⟩;simp only[look];cases cT:af o l with
 |false=>exact(a.aH l).mono b.ext bO.len
 |true=>
  exact Qj
def g.eh(d w)(W i)(b:Nat->p N){eH}{ah}{A}{ai:Nat->p N}(y:c6 d n=h (.cells eH ah))(x:c6 w ah=h (.c (.S f A 0 ai)))(C:g r D be (.code s::ar) .normal F ((n++[an.h W i 0 b]).set d (.cells eH (ah.set w (.R (c n) (.S 0 i 0 0)))))):g r D be (.code s::ar) .normal F n:=by
 refine g.aV (λe aq J bO=>?_) C;have aE:=ei y;have U:=ei x;have H:d<c n:=(cO.1 aE).1;have ad:d<c e.m:=hV;have I:=bI ad;generalize e.m[d]=L at I;obtain⟨o,B,ak,X,O,R⟩:=bO.box d _ L aE I;obtain⟨av,V,S⟩:=O.get U;let j:Loc:=⟨.slice q 0 0,[]⟩
 obtain⟨K,G⟩:=bO.b0 (bU:=.h W i 0 b) (L:=j) (.refl _ _) rfl bO (.inl ⟨rfl,rfl⟩) M;have Q:(n++[an.h W i 0 b])[d]?=h (.cells eH ah):=M;have ae:(e.m++[j])[d]?=h L:=M;have ab:(e.m++[j]).set d L=e.m++[j]:=mV;have z:fD (.cells eH ah) L (.cells eH (ah.set w (.R (c n) (.S 0 i 0 0)))) L:=rfl;have aa:ep ((n++[an.h W i 0 b]).set d (.cells eH (ah.set w (.R (c n) (.S 0 i 0 0))))) ⟨(e.m++[j]).set d L,e.u,e.a,e.own⟩ (.cells eH (ah.set w (.R (c n) (.S 0 i 0 0)))) L:=by
  rw[ab];refine⟨o,B,ak,X,?_,R⟩;have t:fh (n++[an.h W i 0 b]) {e with m:=e.m++[j]} ((n++[an.h W i 0 b]).set d (.cells eH (ah.set w (.R (c n) (.S 0 i 0 0))))) {e with m:=e.m++[j]}:=by
   refine⟨λ_ _ _ u=>u,λZ bU L ao aj=>?_⟩;by_cases au:d=Z
   .grind
   exact⟨bU,L,by grind,aj,.refl _ _⟩
  have Y:bM (n++[an.h W i 0 b]) {e with m:=e.m++[j]} B ah:=O.mono G.ext bO.len;exact bM.set (Y.mono t K.len) V (De (W:=W) (T:=b) S M (by simp[<-bO.len,j]))
 obtain⟨aM,E⟩:=K.b9 (cd:=e.u) (bh:=e.a) (cm:=L) Q ae z (bC _) (λ_ _ _=>rfl) (λ_ _ _ _=>rfl) (λ_ _ _ u=>u) bO.mem (λo l=>⟨.inl l,bO.lt L (b8 I) o l⟩) rfl rfl rfl aa;have k:=G.trans E;exact⟨⟨(e.m++[j]).set d L,e.u,e.a,e.own⟩,a,⟨J.size,J.defers.imp λ_ v=>v.mono k.ext,λag=>(J.aH ag).mono k.ext bO.len⟩,aM,k⟩
end
def hv:Nat->(Nat->p N)->Nat->p N
 |0,a=>a
 |b+1,a=>fw (b+1) a
def yE(t)(a:Nat->p N)(e):hv t a e=a (t+e):=by cases t<;>simp[hv,fw]
def xz(i g k:Nat)(b:Nat->p N)(a:O):Option (O×p Prop):=match lW i a with
 |true=>h (a,[])
 |false=>match a with
  |.R e (.S n d l j)=>match af e i,af d g with
   |true,f=>h (.c (.S m g j (hv l b)),[n=k,l+j<=k])
   |_,_=>q
  |_=>q
def xB(g e i:Nat)(a:Nat->p N):p O->Option (p O×p Prop)
 |[]=>h ([],[])
 |j::n=>match xz g e i a j with
  |some (b,k)=>match xB g e i a n with
   |some (d,l)=>h (b::d,gA k l)
   |none=>q
  |none=>q
def uP(i g j:Nat)(b:Nat->p N):E1->Option (E1×p Prop)
 |.aq d=>match xz i g j b d with|some (d,e)=>h (.aq d,e)|none=>q
 |.agg a=>match xB i g j b a with|some (a,e)=>h (.agg a,e)|none=>q
def xA(g e i:Nat)(a:Nat->p N):p E1->Option (p E1×p Prop)
 |[]=>h ([],[])
 |j::n=>match uP g e i a j with
  |some (b,k)=>match xA g e i a n with
   |some (d,l)=>h (b::d,gA k l)
   |none=>q
  |none=>q
def uO(i g j:Nat)(b:Nat->p N):z->Option (z×p Prop)
 |.q e=>match uP i g j b e with|some (e,d)=>h (.q e,d)|none=>q
 |.Q a=>match xA i g j b a with|some (a,d)=>h (.Q a,d)|none=>q
 |.any=>h (.any,[])
section
variable {aL:p an}{b2:a5}{W i:Nat}
structure mX(aL:p an)(W i k:Nat)(T:Nat->p N)(b b2:a5):Prop where
 a6:∀aa x,cw (aL++[.h W i k T]) b aa x->lW (c aL) x=f->cw aL b2 aa x
 eX:∀aa f_ t A,cw (aL++[.h W i k T]) b aa (.R (c aL) (.S k f_ t A))->f_=i->t+A<=k->Rd b2.u aa (.S m i A (hv t T))
def mX.cO(n:mX aL W i k T b b2){aa}{x j}{ab}(g:xz (c aL) i k T x=h (j,ab))(p:U ab)(o:cw (aL++[.h W i k T]) b aa x):cw aL b2 aa j:=by
 unfold xz at g;split at g
 .rename_i s;cases g;exact n.a6 aa x o s
 split at g
 .rename_i u C r t A _;split at g
  .rename_i d e;cases g;have d:=di d;have e:=di e;subst d e;obtain⟨rfl,l⟩:C=k/\t+A<=k:=p;exact n.eX aa _ _ _ o a l
  grind
 grind
def mX.fu(n:mX aL W i k T b b2):∀{B:p Z}{d a:p O}{e:p Prop},xB (c aL) i k T d=h (a,e)->U e->bM (aL++[.h W i k T]) b B d->bM aL b2 B a
 |[],[],_,_,g,_,_=>by cases g;trivial
 |[],_::_,_,_,_,_,j=>j.elim
 |_::_,[],_,_,_,_,j=>j.elim
 |v::B,s::d,a,e,g,l,j=>by
  simp[xB]at g;split at g
  .rename_i o t cS;split at g
   .rename_i r u dp;cases g;rw[U.Y]at l;exact⟨n.cO cS l.1 j.1,n.fu dp l.2 j.2⟩
   grind
  grind
def mX.q(j:mX aL W i k T b b2){l g}(a:uP (c aL) i k T l=h (g,ab))(e:U ab)(n:er (aL++[.h W i k T]) b aa l):er aL b2 aa g:=by
 cases l with
 |aq t=>
  simp[uP]at a;split at a
  .rename_i d s cS;cases a;exact j.cO cS e n
  grind
 |agg o=>
  simp[uP]at a;split at a
  .rename_i d s cS;cases a;obtain⟨B,r,p⟩:=n;exact⟨B,r,j.fu cS e p⟩
  grind
def mX.g3(n:mX aL W i k T b b2):∀{B:p Z}{d a:p E1}{e:p Prop},xA (c aL) i k T d=h (a,e)->U e->eQ (aL++[.h W i k T]) b B d->eQ aL b2 B a
 |[],[],_,_,g,_,_=>by cases g;trivial
 |[],_::_,_,_,_,_,j=>j.elim
 |_::_,[],_,_,_,_,j=>j.elim
 |v::B,s::d,a,e,g,l,j=>by
  simp[xA]at g;split at g
  .rename_i o t cS;split at g
   .rename_i r u dp;cases g;rw[U.Y]at l;exact⟨n.q cS l.1 j.1,n.g3 dp l.2 j.2⟩
   grind
  grind
def mX.c9(g:mX aL W i k T b b2){l s}(a:uO (c aL) i k T l=h (s,ab))(e:U ab)(j:bx (aL++[.h W i k T]) b aa l):bx aL b2 aa s:=by
 cases l with
 |q l=>
  simp[uO]at a;split at a
  .rename_i d p cS;cases a;exact g.q cS e j
  grind
 |Q r=>
  simp[uO]at a;split at a
  .rename_i d p cS;cases a;obtain⟨B,o,n⟩:=j;exact⟨B,o,g.g3 cS e n⟩
  grind
 |any=>cases a;trivial
def bb.eX(n:bb (aL++[.h W i k T]) b)(aw:ki (c aL) aL=f):
  ∃x:a5,bb aL x/\eT b x/\mX aL W i k T b x/\∀{t:p an} {R:a5},dc t R (aL++[.h W i k T]) b->t.length<=c aL->dc t R aL x:=by
 have aE:(aL++[an.h W i k T])[c aL]?=h (.h W i k T):=E;have G:c b.m=c aL+1:=by rw[n.len];simp
 have X:b.m[c aL]?=h b.m[c aL]:=bI y;generalize b.m[c aL]=L at X;have aJ:=n.box _ _ L aE X;obtain⟨cd,ak,N,z,aB⟩:∃cd:Mem,(∀j d g,b.u j d=h g->cd j d=h g)/\(∀j,j∉L.al->∀d,cd j d=b.u j d)/\(∀j d g,cd j d=h g->b.a.cell? ⟨j,d,q⟩=h g) /\
   (∀g e d A,cw (aL++[.h W i k T]) b g (.R (c aL) (.S k e d A))->e=i->d+A<=k->Rd cd g (.S m i A (hv d T))):=by
  rcases aJ with⟨rfl,rfl⟩|⟨j,aC,B,aP,rfl,bq,aR,ad,D,H,aH⟩
  .refine⟨b.u,λ_ _ _ aG=>aG,λ_ _ _=>rfl,n.mem,λg e d A Q F aa=>?_⟩;obtain⟨ae,⟨ar,Z,S,aC,I,U,ab,aA,av,ax⟩,_,ao⟩:=Q;grind[Rd.dH]
  let cd:Mem:=λs d=>if s=j then B[d]? else b.u s d;have aq:∀s d g,b.u s d=h g->cd s d=h g:=λs d g I=>by grind
  refine⟨cd,aq,λs aQ d=>M,λs d g I=>?_,λg e d A Q F aa=>?_⟩
  .by_cases F:s=j
   .subst F;simp[cd,dH]at I;simp[aN,bq];grind
   simp[cd,F,dh]at I;exact n.mem s d g I
  subst F;obtain⟨ae,⟨ar,Z,S,aF,I,U,ab,aA,av,ax⟩,_,ao⟩:=Q;obtain⟨cm,Y,au⟩:=(ao _ _ _ _ aE).2 rfl;rw[X]at Y;cases Y;rw[av]at au;cases au;rw[I];have O:∀r,r<A->∀w C,(hv d T r)[w]?=h C->∃ai,B[(d+r)*e+w]?=h ai/\Rd b.u ai C:=λr u w C o=>by rw[yE]at o;exact H.rd (d+r) y w C o
  refine .S j (d*e) (λr w=>(B[(d+r)*e+w]?).getD K) U y E (λr u=>by rw[yE];exact H.bJ _ y) (λaI=>M) (λr u w C o=>M) (λr u w C o=>?_);obtain⟨ai,az,aM⟩:=O r u w C o;rw[az];exact aM.mono aq
 have aK:(aL++[an.h W i k T]).set (c aL) .x=aL++[.x]:=E;obtain⟨aj,J⟩:=n.b9 (cd:=cd) (bh:=b.a) (d':=.x) (cm:=⟨L.v,[]⟩) aE X v (bC _) (λ_ _ _=>rfl) (λj _ l d=>N j l d) ak z E rfl rfl rfl v;rw[aK]at aj J;have ag:=aj.drop (br:=[.x]) aw;refine⟨_,ag,⟨a,ak,λj l d=>N j (l L (b8 X)) d,z,λj l=>?_⟩,⟨λg ar Q aO=>?_,λg e d A Q F aa=>aB g e d A Q F aa⟩,λ{t R} ah V=>(ah.trans (J.tooU n)).drop (br:=[.x]) V⟩
 .rcases l with l|⟨cm,Y,l⟩
  .exact .inl l
  have:=hc Y;grind
 exact(Q.mono J.ext n.len).drop (br:=[.x]) aO
end
def bk.bO{C:ai P}{D}{args}{b:ι->z}{aL:ι->p an}{W i}{k:ι->Nat}{T:ι->Nat->p N}(E:bk C D args n res (λa=>aL a++[.h W i (k a) (T a)])){j:ι->p Prop}(M:∀a,uO (c (aL a)) i (k a) (T a) (res a)=h (b a,j a))(K:∀a,U (j a))(J:∀a,ki (c (aL a)) (aL a)=f)(I:∀a,c n<=c (aL a)):bk C D args n b aL:=by refine⟨E.1,λO B x v F s u=>E.2 O B x v F s λa t R Q w d g A=>?_⟩;obtain⟨y,l,e,o,r⟩:=g.eX (J a);exact .aV e (u a t R y (w.mono e.mem) (o.c9 (M a) (K a) d) l (r A (I a)))
def Y.bO{P:aI}{b:ai P}{d}{args}{n}{res a}{aL}{W i k}{T:Nat->p N}(o:Y b d args n res (aL++[.h W i k T])){ab}(l:uO (c aL) i k T res=h (a,ab))(j:U ab)(g:ki (c aL) aL=f)(e:c n<=c aL):Y b d args n a aL:=
 (bk.bO (ι:=Unit) o.tocD (λ_=>l) (λ_=>j) (λ_=>g) (λ_=>e)).toY
section
def XK(u:t.op=.call {callee:=.builtin .clear,args:=#[l],argTypes:=#[o]})(a:aA->Z):
  ac a t=(do pure (.value (<-Builtin.clear_ #[o] t.type #[a l]))):=Rb
def aeX{a:Z}{b}{i}(l:a.cells.toList.map lE=b.map h)(e:c b=i):eW bB i A (λ_=>b) (Builtin.zeroCells a.cells A).toList:=by
 have k:a.cells.size=i:=by have:=eI List.length l;grind
 have s:bM [] ⟨[],bB,default,λ_=>False⟩ a.cells.toList (b.map O.c):=uh l;refine⟨by simp[Builtin.zeroCells,k],λ_ _=>e,λg d w o B=>?_⟩;have v:w<i:=M;obtain⟨j,u,t⟩:=s.get (w:=w) (x:=O.c o) M;refine⟨j,?_,t⟩;have r:g*i+w<A*i:=by
  have:g*i+i<=A*i:=by rw[<-oW];exact gV i d
  omega
 have n:(g*i+w) % i=w:=by grind[Nat.add_mul_mod_self_right,Nat.mod_eq_of_lt]
 have z:w<a.cells.size:=y;have C:a.cells[w]=j:=M;have p:a.cells[w]! = j:=M;simp[Builtin.zeroCells,k,r,n,p]
def a0.eT(aQ:bn P ad)(aS:t.op=.call {callee:=.builtin .clear,args:=#[l],argTypes:=#[o]}){e}(U:bW ad o=h e)(aN:e.desc=.slice W)(R:bW ad W=h a4){b}{z}(aa:η l=cy d (.S k a4.size b A))(s:n[d]?=h (.h z a4.size k T))(an:b+A<=k):
  a0 P t η n .any (n.set d (.h z a4.size k (nH b (b+A) a4.zero T))):=by
 intro u ak r X;have p:=X l;rw[aa]at p;change cw n u (ak l) (.R d _)at p;obtain⟨aU,⟨aw,aO,az,aR,Z,aB,aC,aE,aM,aK⟩,_,G⟩:=p;obtain⟨L,J,ag⟩:=(G _ _ _ _ s).2 rfl;rw[aM]at ag;have C:=(aQ o e U).eM;rw[aN]at C;rw[XK aS,Z];by_cases V:A=0
 .subst V;have ab:nH b (b+0) a4.zero T=T:=by funext w;simp only[nH];grind
  have Y:n.set d (.h z a4.size k T)=n:=mV;rw[ab,Y];refine⟨.value (.tuple #[]),u,?_,v,r,.refl _ _,?_⟩
  .cases aw<;>simp[Builtin.clear_,run_underlying C]
  intro j g;cases aw<;>simp[Builtin.clear_,run_underlying C,aH]at g
 obtain⟨ax,rfl,rfl⟩:=aK y;rcases r.box d _ L s J with⟨_,rfl⟩|⟨aP,gZ,B,F,rfl,K,aJ,ar,aL,av,ao⟩
 .cases ag
 cases ag;obtain⟨aI,i,au,aW,aX,aq,ai,aZ,aj⟩:=(aQ W a4 R).c';have ae:=aeX (bB:=u.u) (A:=A) ai aj;have a1:=ae.len;have aG:=av.len;have aT:b*a4.size+A*a4.size<=k*a4.size:=by rw[<-jA];exact gV _ an
 have D:=av.hO ae an;have S:(λe=>if b<=e/\e<b+A then(λ_=>a4.zero) (e-b)else T e)=nH b (b+A) a4.zero T:=rfl;rw[S]at D;obtain⟨ah,a⟩:=r.gz s J aJ ar aL K D M ao;have aA:=ae.cell;have Q:=run_storeCells_at P ax (b*a4.size) z (Builtin.zeroCells i.cells A).toList 0 (B++F).toArray u.a K M aA;have N:((B++F).toArray.toList.take (b*a4.size+0)++(Builtin.zeroCells i.cells A).toList++(B++F).toArray.toList.drop (b*a4.size+0+(Builtin.zeroCells i.cells A).toList.length))=B.take (b*a4.size)++(Builtin.zeroCells i.cells A).toList++B.drop (b*a4.size+(Builtin.zeroCells i.cells A).toList.length)++F:=M;rw[N]at Q;have O:∀x,(zeroValue W).run P x=.ok i x:=λx=>by simp[zeroValue,typeInfo,au,aq]
 have H:∀x T,(zeroValue W).events P x T=T:=λx T=>by simp[zeroValue,typeInfo,au,aq,aH]
 obtain⟨I,rfl⟩:∃I,A=I+1:=⟨A-1,by omega⟩
 refine⟨.value (.tuple #[]),_,?_,v,ah,a,?_⟩
 .simp[Builtin.clear_,run_underlying C,O,Q]
 intro j g;have aV:j∈(storeCells ⟨ax,b*a4.size,q⟩ (Builtin.zeroCells i.cells (I+1)).toList).events P u.a #[]:=by simp only[Builtin.clear_,aH,j4,m4]at g;simpa[run_underlying C,O,H,Q]using g
 rcases nc (Builtin.zeroCells i.cells (I+1)).toList 0 (B++F).toArray u.a #[] K M aA j aV with aF|⟨w,_,_,rfl⟩
 .grind
 exact ob (b8 J) E (ao _)
end
section
variable {r:ai P}
theorem g.hf{i}(J:∀e j,bV D n e F j->bb n e->∃a:a5,a.a=e.a/\bV D ao a i j/\bb ao a/\cN n e ao a)(N:g r D be (.ae all br::ar) .normal i ao):g r D be (.ae all br::ar) .normal F n:=by intro e j M b B v p A idx u d t;obtain⟨a,K,C,y,x⟩:=J e j M b;have z:=x.tooU b;refine .aV (.of b y K z) ?_;exact N a j C y B v p A idx u d λE l w o O I s k=>t E l w o O I s (z.trans k)
def g.dJ(o)(W i)(dI:Nat->p N){e}{s:Nat->p N}(u:look F o=ax (.S f e 0 s))(j:g r D be (.ae all br::ar) .normal ((o,cy (c n) (.S 0 i 0 0))::F) (n++[.h W i 0 dI])):g r D be (.ae all br::ar) .normal F n:=by
 refine g.hf (λk v a bO=>?_) j;have C:=a.aH o;rw[u]at C;obtain⟨t,b⟩:=bO.b0 (bU:=.h W i 0 dI) (L:=⟨.slice q 0 0,[]⟩) (.refl _ _) rfl bO (.inl ⟨rfl,rfl⟩) E;refine⟨{k with m:=k.m++[⟨.slice q 0 0,[]⟩]},rfl,⟨a.size,a.defers.imp λ_ d=>d.mono b.ext,λl=>?_⟩,t,b⟩;simp only[look];cases cT:af o l with
 |false=>exact(a.aH l).mono b.ext bO.len
 |true=>
  exact Qj
def g.ek(aQ:bn P ad){C w}(Q:t.op=.binOp .eql o l (.const (.slice q C w)) ty){e}(E:bW ad o=h e)(ai:e.desc=.slice W){eP}{i}(V:bF F l=ax (.S eP i k T))(X:t.guard=q)(N:fa D t.dst=f)(J:∀j:Bool,(j=f->k=0)->g r D be (.ae all br::ar) .normal (fS t.dst (ax (.bool j)) F) n):g r D be (.ae all (t::br)::ar) .normal F n:=by
 refine g.cF (ι:={j:Bool // j=f->k=0}) (λj=>ax (.bool j.1)) (λ_=>n) X N (λs M U A=>?_) λj=>J j.1 j.2;have x:=eJ U l;rw[V]at x;obtain⟨b,d,B,x,_,_,_,_,I⟩:=(b6 x).b3;have z:=(aQ o e E).eM;rw[ai]at z;have S:=b6 (by have:=eJ U l;rw[V]at this;exact this);have ah:b.isNone=f->k=0:=by
  intro ae;rw[x]at S;cases S with
  |S j R aj ak aa ag ab Z I p=>
   grind
 refine⟨⟨b.isNone,ah⟩,.value (.bool b.isNone),s,.bool b.isNone,?_,.inl a,Rd.bool,A,.refl _ _,?_⟩
 .have p:(binOp .eql o (.slice b k d) (.slice q C w)).run P s.a=.ok (.bool b.isNone) s.a:=Go.Lib.run_eql_slice_nil s.a o W b k d C w z;have K:∀y,eqGuard .eql o l y (.slice b k d) (.slice q C w)=pure ():=λy=>by simp[eqGuard]
  have v:M.eval (.const (.slice q C w))=.slice q C w:=rfl;simp[ac,Q,x,v,K];simp[p]
 have O:∀T,(Op.equal o (.slice b k d) (.slice q C w)).events P s.a T=T:=λT=>by show(aR (9999+1) o _ _).events P s.a T=T;unfold aR;cases b<;>simp[underlying,z]
 have p:(Op.equal o (.slice b k d) (.slice q C w)).run P s.a=.ok b.isNone s.a:=by show(aR (9999+1) o _ _).run P s.a=_;grind[Go.Lib.run_equalIn_slice_nil]
 have K:∀y,eqGuard .eql o l y (.slice b k d) (.slice q C w)=pure ():=λy=>by simp[eqGuard]
 have v:M.eval (.const (.slice q C w))=.slice q C w:=rfl;intro Y u;exfalso;simp[ac,Q,x,v,K,binOp]at u;simp[p,O,aH]at u
end
def fN(a:p UInt8):p Z:=a.map λb=>.int .u8 b.toNat
theorem MP{ag}:c (fN ag)=c ag:=by simp[fN]
def aen{ag j}:fN (ag++j)=fN ag++fN j:=by simp[fN]
def jD(b:Option (Nat×Nat))(e:Nat):Z:=match b with|none=>.slice q 0 0|some (d,a)=>.slice (h ⟨d,0,q⟩) e a
def eD(s r:av)(t:Bool)(i:Z)(j:Option (Nat×Nat))(b:p UInt8)(n:Nat):Z->(Nat->Option Obj)->Prop:=λo d=>
 ∃g,o=.pointer (h ⟨g,0,q⟩)/\dW i=f/\d g=h (.cells #[if t then o else .pointer q,i] s (0,0)) /\
 match j with
 |none=>b=[]/\∀e,(d e).isSome=f↔e=g
 |some (k,a)=>k≠g/\c b<=a/\0<a/\a<=9223372036854775807/\n<=c b/\(∃l,c (fN b++l)=a/\d k=h (.cells (fN b++l).toArray r (0,n)))/\∀e,(d e).isSome=f↔e=g∨e=k
section
variable {r:ai P}{i:p (Nat×bv)}{ad:av}{x:Bool}{v1:Z}{bN:Option (Nat×Nat)}{ag:p UInt8}{ae:Nat}
structure mW(P:aI)(n:p an)(b:a5)(d:Nat)(ad W:av)(x:Bool)(v1:Z)(bN:Option (Nat×Nat))(ag:p UInt8)(ae:Nat)(L:Loc)(j:Nat)(cE:Nat->Option Obj):Prop where
 m:b.m[d]?=h L
 v:L.v=.pointer (h ⟨j,0,q⟩)
 f_:eD ad W x v1 bN ag ae L.v cE
 heap:∀(j:Nat) (t:Obj),cE j=h t->b.a.heap[j]?=h t
 al:∀j,j∈L.al↔(cE j).isSome=f
 u:∀j∈L.al,∀t,b.u j t=q
 cE:cE j=h (.cells #[if x then L.v else .pointer q,v1] ad (0,0))
 cell:dW v1=f
def eD.row(bO:bb n b)(l:n[d]?=h (.J (eD ad W x v1 bN ag ae))):∃L e a,mW P n b d ad W x v1 bN ag ae L e a:=by have p:d<c b.m:=hV;have g:=bI p;generalize b.m[d]=L at g;obtain⟨a,o,i,j,t⟩:=bO.box d _ L l g;have r:=o;obtain⟨e,s,u,k,_⟩:=r;exact⟨L,e,a,g,s,o,i,j,t,k,u⟩
def mW.mem{L}(a:mW P n b d ad W x v1 bN ag ae L j k6):j∈L.al:=(a.al j).2 (by rw[a.cE];rfl)
def mW.ptr{L}(g:mW P n b d ad W x v1 bN ag ae L j k6)(i:bx n b aa (aG d off)):aa=.pointer (h ⟨j,off,q⟩):=by obtain⟨_,k,l,a,e,rfl⟩:=(i:cw n b aa (.ptr d off));rw[g.m]at a;cases a;rw[g.v]at e;grind
def AY(aQ:bn P i){e}(w:t.op=.load o l)(r:bW i o=h e)(C:e.agg=m)(N:n[d]?=h (.J (eD ad W x v1 bN ag ae))){v}(E:η l=aG d off)(O:∀a L b g,bb n a->mW P n a d ad W x v1 bN ag ae L b g->∃p,(#[if x then L.v else .pointer q,v1]:Array Z)[off]?=h p/\bx n a p v):a0 P t η n v n:=by
 refine .du λa s B G=>?_;obtain⟨L,b,g,j⟩:=eD.row (P:=P) B N;have A:=j.ptr (by have:=G l;rwa [E]at this);obtain⟨p,H,Q⟩:=O a L b g B j;have I:a.a.cell? ⟨b,off,q⟩=h p:=by simp only[aN,j.heap _ _ j.cE];grind
 have u:(loadVar o ⟨b,off,q⟩).run P a.a=.ok p a.a:=by simp[loadVar,(aQ o e r).eo,C,run_load,I]
 refine⟨p,by simp[ac,w,A,Instr.loadAt,Instr.sureAddr,u],Q,λz y=>?_⟩;have K:z∈(loadVar o ⟨b,off,q⟩).events P a.a #[]:=by
  have F:ac s t=(do pure (.value (<-loadVar o ⟨b,off,q⟩))):=by simp[ac,w,A,Instr.loadAt,Instr.sureAddr]
  rw[F]at y;simpa[u]using y
 obtain⟨J,D,rfl⟩:=o7 (aQ o e r) (k:=1) (λJ D=>by grind) M z K;exact qh (b8 j.m) j.mem
def a0.eQ(aQ:bn P i){e}(p:t.op=.load o l)(a:bW i o=h e)(g:e.agg=m)(b:n[d]?=h (.J (eD ad W x v1 bN ag ae)))(k:η l=aG d 1):a0 P t η n (cM v1) n:=
 AY aQ p a g b k λv L u j r s=>⟨v1,by simp,Rd.val s.cell⟩
def aaJ(e:n[d]?=h (.J H)):∀a,n[d]?=h a->a.dN=m:=by intro a b;rw[e]at b;cases b;rfl
def a0.gJ(aQ:bn P i){e}(s:t.op=.load o l)(b:bW i o=h e)(k:e.agg=m)(a:n[d]?=h (.J (eD ad W f v1 bN ag ae)))(r:η l=aG d 0):a0 P t η n (aG d 0) n:=
 AY aQ s b k a r λv L j p u g=>⟨L.v,by simp,aaJ a,L,j,g.m,g.v,g.v⟩
def a0.ir(aQ:bn P i){e}(p:t.op=.load o l)(a:bW i o=h e)(j:e.agg=m)(b:n[d]?=h (.J (eD ad W m v1 bN ag ae)))(k:η l=aG d 0):a0 P t η n (ax .bc) n:=
 AY aQ p a j b k λv L s g r u=>⟨.pointer q,by simp,Rd.bc⟩
def setRow_size(a:au)(j)(row):(a.setRow j row).heap.size=a.heap.size:=by simp[World.setRow]
def Gv(aQ:bn P i){e}(ab:t.op=.store o l X)(A:bW i o=h e)(z:e.size=1)(Y:n[d]?=h (.J (eD ad W x v1 bN ag ae))){s}{u}(Q:η l=aG d off)(K:off<2)(F:dW u=f)(I:∀p L j r y,bb n p->mW P n p d ad W x v1 bN ag ae L j r->bx n p y (η X)->dW y=f/\(#[if x then L.v else .pointer q,v1]:Array Z).setIfInBounds off y=#[if s then L.v else .pointer q,u]):a0 P t η n .any (n.set d (.J (eD ad W s u bN ag ae))):=by
 intro p b E aa;obtain⟨L,j,r,k⟩:=eD.row (P:=P) E Y;have G:=k.ptr (by have:=aa l;rwa [Q]at this);obtain⟨N,H⟩:=I p L j r (b X) E k (aa X);have aj:(b X).cells=#[b X]:=by cases D:b X<;>simp[D,dW,Value.cells]at N⊢
 have an:∀y∈[b X],y.oneCell'=f:=by intro y G;simp at G;subst G;cases D:b X<;>simp[D,dW,Value.oneCell']at N⊢
 have R:=k.heap _ _ k.cE;have S:=run_storeCells_at P j off ad [b X] 0 _ p.a R M an;have O:((#[if x then L.v else .pointer q,v1]:Array Z).toList.take (off+0)++[b X]++(#[if x then L.v else .pointer q,v1]:Array Z).toList.drop (off+0+[b X].length)).toArray=#[if s then L.v else .pointer q,u]:=by
  rw[<-H]
  match off,K with
  |0,_=>grind
  |1,_=>grind
 rw[O]at S;have az:(p.a.setRow j #[if s then L.v else .pointer q,u]).heap[j]?=h (.cells #[if s then L.v else .pointer q,u] ad (0,0)):=setRow_heap p.a j _ _ ad _ R;have ak:∀g,g≠j->(p.a.setRow j #[if s then L.v else .pointer q,u]).heap[g]?=p.a.heap[g]?:=λg w=>setRow_other p.a j g _ w;obtain⟨V,aM⟩:=E.b_ (d:=d) (j2:=eD ad W s u bN ag ae) (cm:=L) (bh:=p.a.setRow j #[if s then L.v else .pointer q,u]) Y k.m rfl (by rw[setRow_size];grind)
  (λg w J=>ak g (by rintro rfl;exact J k.mem)) (λg w=>.inl w)
  ⟨λg=>if g=j then h (.cells #[if s then L.v else .pointer q,u] ad (0,0))else r g,by
   obtain⟨C,U,au,av,aw⟩:=k.f_;have:C=j:=by rw[k.v]at U;grind
   subst this;have ax:∀g,(if g=C then h (Obj.cells #[if s then L.v else .pointer q,u] ad (0,0))else r g).isSome=f↔(r g).isSome=f:=M;refine⟨C,U,F,by simp,?_⟩;grind,λg ar w=>by
   by_cases v:g=j
   .grind
   .simp only[v,dh]at w;rw[ak g v];exact k.heap _ _ w,λg=>by
   rw[k.al g];by_cases v:g=j
   .subst v;simp[k.cE]
   grind⟩ a a a
 have ao:p.m.set d L=p.m:=by
  apply p4;intro ai;by_cases v:d=ai
  .subst v;rw[ij (cO.1 k.m).1,k.m]
  grind
 rw[ao]at V aM;refine⟨.skip,{p with a:=p.a.setRow j #[if s then L.v else .pointer q,u]},?_,rfl,V,aM,?_⟩
 .simp[ac,ab,G,Instr.storeAt,Instr.sureAddr,storeVar,(aQ o e A).bf,z,aj,S]
 intro T B;have v:ac b t=(do storeVar o ⟨j,off,q⟩ (b X);pure .skip):=by simp[ac,ab,G,Instr.storeAt,Instr.sureAddr]
 rw[v]at B;have aq:T∈(storeCells ⟨j,off,q⟩ [b X]).events P p.a #[]:=by
  simp only[storeVar,aH,(aQ o e A).bf,aj,z,aJ,events_sizeOf,d8,hn,dh,cI,c0,Sem.events_pure,List.size_toArray,gU]at B;generalize(storeCells ⟨j,off,q⟩ [b X]).run P p.a=k at B;cases k with
  |ok y bh=>simpa using B
  |halt l bh=>simpa using B
 rcases nc [b X] 0 _ p.a #[] R M an T aq with ah|⟨ai,_,_,rfl⟩
 .grind
 exact ob (b8 k.m) k.mem (k.u _ k.mem _)
def a0.gb(aQ:bn P i){e}(p:t.op=.store o l X)(a:bW i o=h e)(k:e.size=1)(b:n[d]?=h (.J (eD ad W x v1 bN ag ae))){s}(w:η l=aG d 1)(u:η X=cM s)(v:dW s=f):a0 P t η n .any (n.set d (.J (eD ad W x s bN ag ae))):=
 Gv aQ p a k b w y v λB L z j C r A g=>by rw[u]at g;have:=Rd.bj g;grind
def a0.iu(aQ:bn P i){e}(u:t.op=.store o l X)(b:bW i o=h e)(p:e.size=1)(g:n[d]?=h (.J (eD ad W x v1 bN ag ae)))(z:η l=aG d 0)(s:η X=aG d 0)(w:dW v1=f):a0 P t η n .any (n.set d (.J (eD ad W f v1 bN ag ae))):=
 Gv aQ u b p g z y w λB L A r C v k j=>by rw[s]at j;have:=k.ptr j;subst this;refine⟨a,?_⟩;rw[<-k.v];rfl
def a0.ie{ad}(o:t.op=.alloc ad)(p:∀k,(zeroValue ad).run P k=.ok (.agg #[.pointer q,.slice q 0 0]) k)(u:∀k g,(zeroValue ad).events P k g=g):a0 P t η n (aG (c n) 0) (n++[.J (eD ad W m (.slice q 0 0) q [] 0)]):=by
 intro b B bO v;let bh:=b.a.alloc (.cells #[.pointer q,.slice q 0 0] ad);obtain⟨y,w⟩:=bO.cY (cd:=b.u) (bh:=bh) (by simp[bh]) (λs i=>iM b.a _ i) (λ_ _ _=>rfl) (λs i t A e=>by have:=bO.block e;omega) rfl rfl rfl;have D:bh.heap.size=b.a.heap.size+1:=by simp[bh]
 have C:bh.heap[b.a.heap.size]?=h (.cells #[.pointer q,.slice q 0 0] ad (0,0)):=lT b.a _;obtain⟨z,x⟩:=y.b0 w rfl bO (bU:=.J (eD ad W m (.slice q 0 0) q [] 0)) (L:=⟨.pointer (h ⟨b.a.heap.size,0,q⟩),[b.a.heap.size]⟩)
  ⟨λd=>if d=b.a.heap.size then h (.cells #[.pointer q,.slice q 0 0] ad (0,0))else q,⟨b.a.heap.size,rfl,rfl,by simp,rfl,λd=>by by_cases l:d=b.a.heap.size<;>simp[l]⟩,λd r j=>by
   grind,λd=>by by_cases l:d=b.a.heap.size<;>simp[l],λd j r=>by
   simp at j;subst j;show b.u _ _=q;cases e:b.u b.a.heap.size r with
   |none=>rfl
   |some A=>have:=bO.block e;omega⟩ (λd j=>by grind)
 refine⟨.value (.pointer (h ⟨b.a.heap.size,0,q⟩)),_,?_,⟨by simp,⟨.pointer (h ⟨b.a.heap.size,0,q⟩),[b.a.heap.size]⟩,b.a.heap.size,?_,a,a⟩,z,x,?_⟩
 .simp[ac,o,Instr.alloc,p,Go.newVar,newRow,Value.cells,bh]
 .exact tX
 simp[ac,o,Instr.alloc,p,u,Go.newVar,newRow];exact .nil
end
end Go.AM
