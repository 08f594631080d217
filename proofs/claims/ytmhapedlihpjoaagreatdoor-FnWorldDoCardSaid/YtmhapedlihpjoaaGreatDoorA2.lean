/- Part 2. No condition. -/
import Derived.Test.YtmhapedlihpjoaaGreatDoorA1
import Derived.Test.YtmhapedlihpjoaaGreatDoorProg
import Derived.MapKept
import Derived.Maps.RangeRun
import Derived.Laws.MakeOwn
import Derived.Lib.SliceRun
import Derived.Lib.FrozenHead
import Derived.Lib.UnsafeStr
import Derived.Lib.MakeNoZero
set_option linter.all false
set_option maxHeartbeats 8000000
open Go.Proofs
open Go.Proofs.Tryz
open Go.Conc (G)
open List renaming length → c, range → aC, getD_eq_getElem?_getD → al, all_eq_true → aZ
open Go renaming Value → aa, TypeId → av, Event → aT, undef → K, World → au, Frame → aK, FuncId → a4, execOp → ac, Operand → aA, Program → aI, Goroutine → ak, stepG → aq, Oper → ap
open Option renaming some → h, none → q
open Bool renaming true → f, false → m
open Nat renaming beq → af, ble → ay
open Go.Region renaming wanted → aU, ready → aS
open Go.World renaming cell? → aL
open Go.Sem renaming events_bind → aG
open Go.Result renaming evThen_ok → aJ
open Go.Instr renaming sliceBounds → aX
open Go.Op renaming equalIn → aQ
open Go.Proofs.Tryz renaming prog → V
namespace Go.AM
variable {k A:Nat}{i:Int}{d j e w:Nat}{W:av}{H:aa->(Nat->Option Obj)->Prop}{L:Array Bool}{bE:Mem}{D:Nat}{P:aI}{br:ak->a6->Prop}{s:Code}{C:ak}{t:ap}{b:a6}{o:av}{ab:aa}{l X:aA}{α:Type}{η:aA->z}{ι:Type}{n:p an}{F:bJ}{all:p ap}{du:Array av}{cap:p N}{cV:p z}{lb:Nat->Option Obj}{ah:p aK}{bh:p (Nat×Bool)}{T:Nat->p N}{cR:aA}{gs:Array ak}{aP:p Nat}{ck:p Prop}{off:Nat}{op:BinOp}{aD:Array ap}{Y:p Prop}{bt:p ap}{az:a6}{ty:av}{val:Nat->Nat->aa}{B:p aa}{bi:au}{ag:Array aA}{ao dh:p an}{res:ι->z}{aM:ι->p an}
section force
variable {R:Type}
def vg:N->(N->Option R)->Option R
 |.int g i,a=>a (.int g i)
 |.bool e,a=>a (.bool e)
 |.V n,a=>a (.V n)
 |.S f g i d,a=>a (.S f g i d)
 |.S m g i d,a=>a (.S m g i d)
 |.O b,a=>eW b λb=>a (.O b)
 |.cG o b,a=>eW b λb=>a (.cG o b)
 |.fn l j e,a=>eW j λj=>eW e λe=>a (.fn l j e)
 |k,a=>a k
def Yn(s)(b:N->Option R):vg s b=b s:=by
 cases s with
 |S d=>cases d<;>rfl
 |O a=>simp[vg,hA]
 |cG d a=>simp[vg,hA]
 |fn i e g=>simp[vg,hA]
 |_=>rfl
def vf:O->(O->Option R)->Option R
 |.c k,a=>vg k λk=>a (.c k)
 |.ptr b j,a=>a (.ptr b j)
 |.r b d i e,a=>a (.r b d i e)
 |.aR b,a=>a (.aR b)
 |.R b (.S g d j i),a=>a (.R b (.S g d j i))
 |.R b (.bz g d n l),a=>a (.R b (.bz g d n l))
 |.any,a=>a .any
def Jx(a)(b:O->Option R):vf a b=b a:=by
 cases a with
 |R e d=>cases d<;>simp[vf]
 |_=>simp[vf,Yn]
def yh:p O->(p O->Option R)->Option R
 |[],b=>b []
 |a::d,b=>vf a λa=>yh d λd=>b (a::d)
def Ym(d)(a:p O->Option R):yh d a=a d:=by
 induction d generalizing a with
 |nil=>rfl
 |cons e g b=>simp[yh,Jx,b]
def yj:E1->(E1->Option R)->Option R
 |.aq b,d=>vf b λb=>d (.aq b)
 |.agg a,d=>yh a λa=>d (.agg a)
def Jy(a)(b:E1->Option R):yj a b=b a:=by cases a<;>simp[yj,Jx,Ym]
def yk:p E1->(p E1->Option R)->Option R
 |[],b=>b []
 |a::d,b=>yj a λa=>yk d λd=>b (a::d)
def Yo(d)(a:p E1->Option R):yk d a=a d:=by
 induction d generalizing a with
 |nil=>rfl
 |cons e g b=>simp[yk,Jy,b]
def pn:z->(z->Option R)->Option R
 |.q d,b=>yj d λd=>b (.q d)
 |.Q a,b=>yk a λa=>b (.Q a)
 |.any,b=>b .any
theorem vh(a)(b:z->Option R):pn a b=b a:=by cases a<;>simp[pn,Jy,Yo]
end force
def qU:z->Option (Bool×Nat×Nat×(Nat->p N))
 |.q (.aq (.c (.S e b d a)))=>h (e,b,d,a)
 |.q (.aq (.r _ b d a))=>h (m,b,d,a)
 |_=>q
theorem tL{d}{o}{i}(a:qU d=h (o,i,k,T))(n)(b)(ab)(e:bz n b ab d):Rd b.u ab (.S o i k T):=by
 unfold qU at a;split at a
 .cases a;exact e
 .cases a;exact e.1
 grind
def kN(b:p UInt8)(a:Int):UInt8:=b.getD a.toNat 0
def Dg(b:p (Nat×bx))(i:av)(a:z):Option z:=
 match bZ b i with
 |none=>q
 |some d=>match d.desc with
  |.slice _=>match qU a with
   |some (_,_,e,_)=>h (ax (.int .i64 e))
   |none=>q
  |.string=>match a with
   |.q (.aq (.c (.V g)))=>h (ax (.int .i64 (c g)))
   |_=>q
  |_=>q
def B0(d:p (Nat×bx))(n l:av)(b:z):Option (z×p Prop):=
 match bZ d n with
 |none=>q
 |some g=>match bZ d l with
  |none=>q
  |some ce=>match ce.desc with
   |.int a=>match b with
    |.q (.aq (.c (.int _ j)))=>h (ax (.int a j),[a8 a j])
    |_=>q
   |.string=>match b with
    |.q (.aq (.c (.V t)))=>h (ax (.V t),[])
    |b=>match g.desc with
     |.slice k=>match bZ d k with
      |some i=>match i.desc with
       |.int .u8=>match qU b with
        |some (_,o,r,e)=>match af o 1 with
         |true=>match uV e 0 r with
          |some s=>h (ax (.V s),[])
          |none=>q
         |false=>q
        |none=>q
       |_=>q
      |none=>q
     |_=>q
   |_=>q
def Eh(k:p (Nat×bx))(a:aA->z)(u:av)(o:aA)(j i:Option aA):Option (z×p Prop):=
 match bZ k u with
 |none=>q
 |some s=>match kM a j with
  |none=>q
  |some d=>match kM a i with
   |none=>q
   |some e=>match s.desc with
    |.string=>match a o with
     |.q (.aq (.c (.V n)))=>h (ax (.V (mA n d e)),jl (c n) d e)
     |_=>q
    |.slice r=>match bZ k r with
     |none=>q
     |some b=>match qU (a o)with
      |some (eT,t,l,g)=>match af t b.size with
       |true=>h (ax (.S (xM eT e) b.size (bT l e-bT 0 d) (fB (bT 0 d) g)),jl l d e)
       |false=>q
      |none=>q
    |_=>q
def sL(d:BinOp)(e:IntKind)(g:Int)(b:IntKind)(i:Int):Option (z×p Prop):=
 match uQ d e g b i with
 |some (j,a)=>h (ax (.int e j),a)
 |none=>q
theorem Sl{i a}{b j}{e}(g:sL op i b a j=h (e,ck)):∃d,e=ax (.int i d)/\uQ op i b a j=h (d,ck):=by unfold sL at g;grind
def GD(r:p (Nat×bx))(e:BinOp)(s:av)(u v:z):Option (z×p Prop):=
 match u,v with
 |.q (.aq (.c (.bool b))),.q (.aq (.c (.bool a)))=>match bZ r s with
  |some o=>match o.desc with
   |.bool=>match ia e (b==a)with
    |some g=>h (ax (.bool g),[])
    |none=>q
   |_=>q
  |none=>q
 |.q (.aq (.c b)),.q (.aq (.c a))=>match e with
  |.xor=>match b,a with
   |.int .i64 b,.int .i64 a=>h (ax (.int .i64 ((b.toNat ^^^ a.toNat:Nat):Int)),[0<=b,0<=a])
   |.int .u64 b,.int d a=>sL .xor .u64 b d a
   |_,_=>q
  |.shl=>match b,a with
   |.int i b,.int d a=>sL .shl i b d a
   |_,_=>q
  |.shr=>match b,a with
   |.int i b,.int d a=>sL .shr i b d a
   |_,_=>q
  |.and=>match b,a with
   |.int i b,.int d a=>sL .and i b d a
   |_,_=>q
  |_=>match xi e b a with
   |some (g,j)=>h (ax g,j)
   |none=>q
 |.q (.agg k),.q (.agg n)=>match bZ r s with
  |some o=>match o.eq with
   |[]=>q
   |t::l=>match qp (t::l) k n with
    |some a=>match ia e a with
     |some g=>h (ax (.bool g),[])
     |none=>q
    |none=>q
  |none=>q
 |_,_=>q
def yQ(e:p (Nat×bx))(A:p (Nat×bL))(a:bJ)(O:ap):Option (z×p Prop):=
 match O.op with
 |.move l|.assign l=>h (bG a l,[])
 |.index b l x=>match bZ e b with
  |some k=>match k.desc with
   |.string=>match bG a l,bG a x with
    |.q (.aq (.c (.V s))),.q (.aq (.c (.int _ i)))=>h (ax (.int .u8 (kN s i).toNat),[0<=i,i<c s])
    |_,_=>q
   |_=>q
  |none=>q
 |.indexAddr b l x=>match bZ e b with
  |some k=>match k.desc with
   |.slice M=>match bZ e M with
    |some I=>match qU (bG a l),bG a x with
     |some (_,n,y,o),.q (.aq (.c (.int _ i)))=>match af n I.size with
      |true=>h (ax (.O (o i.toNat)),[0<=i,i<y])
      |false=>q
     |_,_=>q
    |none=>q
   |_=>q
  |none=>q
 |.slice b l J F q=>Eh e (bG a) b l J F
 |.convert w dst l=>B0 e w dst (bG a l)
 |.call g=>match g.callee with
  |.builtin .len=>match g.args.toList,g.argTypes[0]? with
   |[l],h b=>match Dg e b (bG a l)with
    |some N=>h (N,[])
    |none=>q
   |_,_=>q
  |.value E=>BM A a E g.args.toList
  |_=>q
 |.pick g t u=>match bG a g with
  |.q (.aq (.c (.bool f)))=>h (bG a t,[])
  |.q (.aq (.c (.bool m)))=>h (bG a u,[])
  |_=>q
 |.binOp r b l x _=>GD e r b (bG a l) (bG a x)
 |.unOp r _ l=>match bG a l with
  |.q (.aq (.c t))=>match zC r t with
   |some g=>h (ax g,[])
   |none=>q
  |_=>q
 |.extract l i=>match bG a l with
  |.Q K=>match c' i K with
   |some v=>h (.q v,[])
   |none=>q
  |_=>q
 |.fieldAddr b l D=>match lj e b D with
  |some (n,_)=>match bG a l with
   |.q (.aq (.ptr s j))=>h (aH s (j+n),[])
   |.q (.aq (.c (.O d)))=>h (ax (.O (f_ n d)),[])
   |_=>q
  |none=>q
 |.field b l D=>match lj e b D with
  |some (n,i)=>match bG a l with
   |.q (.agg d)=>match hi i (f_ n d)with
    |some v=>h (.q v,[])
    |none=>q
   |_=>q
  |none=>q
 |.nilCheck l=>match bG a l with
  |.q (.aq (.ptr s j))=>h (aH s j,[])
  |.q (.aq (.c (.O d)))=>h (ax (.O d),[])
  |_=>q
 |.build b parts=>match xm e (bG a) b parts.toList with
  |some d=>h (.q (.agg d),[])
  |none=>q
 |.buildSlice b y parts=>match rY e (bG a) b y parts.toList with
  |some (n,o)=>h (ax (.S f n y λk=>o.getD k []),[])
  |none=>q
 |.makeFunc fn t u=>match rH (bG a) t.toList with
  |some B=>match rH (bG a) u.toList with
   |some C=>h (ax (.fn fn B C),[])
   |none=>q
  |none=>q
 |.makeInterface b l=>match bZ e b with
  |some k=>match vr k.desc with
   |false=>match yH b (bG a l)with
    |some g=>h (ax g,[])
    |none=>q
   |true=>q
  |none=>q
 |.typeAssert l _ b f=>match bZ e b with
  |some k=>match vr k.desc with
   |false=>match bG a l with
    |.q (.aq (.c g))=>match sJ b k g with
     |some (v,u)=>h (.Q [v,.aq (.c (.bool u))],[])
     |none=>q
    |_=>q
   |true=>q
  |none=>q
 |_=>q
def Dk(i:p (Nat×bx))(g:bJ)(j:p an)(l:av)(n:aA):Option z:=
 match bZ i l with
 |some e=>match bG g n with
  |.q (.aq (.ptr k b))=>match c' k j with
   |some (.cells _ a)=>match hi e (f_ b a)with
    |some d=>h (.q d)
    |none=>q
   |_=>q
  |.q (.aq (.c (.O a)))=>match hi e (a.map O.c)with
   |some d=>h (.q d)
   |none=>q
  |_=>q
 |none=>q
def DE(l:p (Nat×bx))(b:bJ)(J:ap):Option (z×p Prop):=
 match J.op with
 |.indexAddr k g w=>match bZ l k with
  |some a=>match a.desc with
   |.slice r=>match bZ l r with
    |some e=>match bG b g,bG b w with
     |.q (.aq (.R t (.S s n v i))),.q (.aq (.c (.int _ d)))=>match af n e.size with
      |true=>h (cD t (.bz s e.size (v+d.toNat) 0),[0<=d,d<i])
      |false=>q
     |.q (.aq (.c (.val (.slice (h ⟨y,j,q⟩) o _)))),.q (.aq (.c (.int _ d)))=>h (ax (.val (.pointer (h ⟨y,j+d.toNat*e.size,q⟩))),[0<=d,d<o])
     |_,_=>q
    |none=>q
   |_=>q
  |none=>q
 |.fieldAddr k g I=>match lj l k I with
  |some (n,_)=>match bG b g with
   |.q (.aq (.R t (.bz s x a v)))=>h (cD t (.bz s x a (v+n)),[])
   |.q (.aq (.c (.val (.pointer (h ⟨y,j,q⟩)))))=>h (ax (.val (.pointer (h ⟨y,j+n,q⟩))),[])
   |_=>q
  |none=>q
 |.nilCheck g=>match bG b g with
  |.q (.aq (.R t (.bz s x a v)))=>h (cD t (.bz s x a v),[])
  |_=>q
 |.slice k g D C q=>match bZ l k with
  |none=>q
  |some a=>match kM (bG b) D with
   |none=>q
   |some u=>match kM (bG b) C with
    |none=>q
    |some F=>match a.desc with
     |.slice r=>match bZ l r with
      |none=>q
      |some e=>match bG b g with
       |.q (.aq (.R t (.S s n v i)))=>match af n e.size with
        |true=>h (cD t (.S s e.size (v+bT 0 u) (bT i F-bT 0 u)),jl i u F)
        |false=>q
       |_=>q
     |_=>q
 |.slice k g q (h w) (h E)=>match bZ l k with
  |none=>q
  |some a=>match a.desc with
   |.slice r=>match bZ l r with
    |none=>q
    |some _=>match qU (bG b g),bG b w,bG b E with
     |some (_,n,o,B),.q (.aq (.c (.int _ d))),.q (.aq (.c (.int _ i)))=>h (ax (.S m n d.toNat B),[0<=d,d<=i,i<=o])
     |_,_,_=>q
   |_=>q
 |.slice k g (h K) (h w) (h E)=>match bZ l k with
  |none=>q
  |some a=>match a.desc with
   |.slice r=>match bZ l r with
    |none=>q
    |some _=>match bG b g,bG b K,bG b w,bG b E with
     |.q (.aq (.R _ (.S _ _ _ o))),.q (.aq (.c (.int _ a))),.q (.aq (.c (.int _ d))),.q (.aq (.c (.int _ i)))=>h (.q (.aq .any),[0<=a,a<=d,d<=i,i<=o])
     |_,_,_,_=>q
   |_=>q
 |.call A=>match A.callee with
  |.builtin .len=>match A.args.toList,A.argTypes[0]? with
   |[g],h k=>match bZ l k with
    |some a=>match a.desc with
     |.slice _=>match bG b g with
      |.q (.aq (.R _ (.S _ _ _ i)))=>h (ax (.int .i64 i),[])
      |.q (.aq (.c (.val (.slice _ o _))))=>h (ax (.int .i64 o),[o<=9223372036854775807])
      |_=>q
     |_=>q
    |none=>q
   |_,_=>q
  |_=>q
 |_=>q
def yy(j:p (Nat×bx))(i:bJ)(k:p an)(t:av)(u:aA):Option (z×p Prop):=
 match bZ j t with
 |some b=>match bG i u with
  |.q (.aq (.R s (.bz o r e n)))=>match c' s k with
   |some (.h _ d g a)=>match af d r with
    |true=>match hi b ((f_ n (a e)).map O.c)with
     |some l=>h (.q l,[o=g,e<g])
     |none=>q
    |false=>q
   |_=>q
  |_=>q
 |none=>q
def aeQ:Nat->p N->Nat->Bool
 |0,a,b=>af (c a) b
 |_+1,_,_=>m
def Et(v:p (Nat×bx))(r:bJ)(j:p an)(w:av)(x y:aA):Option (z×p an×p Prop):=
 match bZ v w with
 |some l=>match bG r x with
  |.q (.aq (.R n (.bz t u i s)))=>match c' n j with
   |some (.h o e g d)=>match af e u with
    |true=>match my (bG r y)with
     |some new=>match af (c new) l.size with
      |true=>match h7 new with
       |some b=>match aeQ s b u with
        |true=>eW (dc.cr n (.h o e g (lu i b d)) j) λa=>h (.any,a,[t=g,i<g])
        |false=>match iZ s b (d i)with
         |some k=>eW (dc.cr n (.h o e g (lu i k d)) j) λa=>h (.any,a,[t=g,i<g])
         |none=>q
       |none=>q
      |false=>q
     |none=>q
    |false=>q
   |_=>q
  |_=>q
 |none=>q
def px(b:p (Nat×bx))(d:p (Nat×bL))(a:bJ)(g:p an)(e:ap):Option (z×p Prop):=
 match e.op with
 |.load i j=>match Dk b a g i j with
  |some k=>h (k,[])
  |none=>yy b a g i j
 |_=>match yQ b d a e with
  |some l=>h l
  |none=>DE b a e
def xc(e:p (Nat×bx))(j g:av):Option (av×bx):=
 match bZ e j with
 |none=>q
 |some i=>match bZ e g with
  |none=>q
  |some ce=>match i.desc with
   |.slice b=>match ce.desc with
    |.slice d=>match af d b with
     |false=>q
     |true=>match bZ e b with
      |none=>q
      |some a=>match ay 1 a.bytes,ay 1 a.size with
       |true,f=>h (b,a)
       |_,_=>q
    |_=>q
   |_=>q
def uM(i:p (Nat×bx))(e:aA->z)(n:aA)(l j:av):Option (av×bx×Nat×(Nat->p N)):=
 match xc i l j with
 |none=>q
 |some (g,b)=>match qU (e n)with
  |none=>q
  |some (_,d,k,a)=>match af d b.size with
   |false=>q
   |true=>h (g,b,k,a)
def AX(u:p (Nat×bx))(t:aA->z)(k:p an)(y A:aA)(x v:av):Option (z×p an×p Prop):=
 match uM u t A x v with
 |none=>q
 |some (r,a,j,b)=>match t y with
  |.q (.aq (.c (.S f s d g)))=>match af s a.size with
   |true=>eW (k++[.r r a.size (d+j) (cg d g b)]) λi=>h (.q (.aq (.r (c k) a.size (d+j) (cg d g b))),i,[(d+j)*a.bytes<=140737488355328,d=0∨0<j])
   |false=>match af d 0 with
    |true=>eW (k++[.r r a.size (d+j) (cg d g b)]) λi=>h (.q (.aq (.r (c k) a.size (d+j) (cg d g b))),i,[(d+j)*a.bytes<=140737488355328,d=0∨0<j])
    |false=>q
  |.q (.aq (.r o s d g))=>match c' o k with
   |some (.r l n e kP)=>match af l r,af s a.size,af n a.size with
    |true,f,f=>eW (dc.cr o (.r r a.size (d+j) (cg d g b)) k) λi=>h (.q (.aq (.r o a.size (d+j) (cg d g b))),i,[e=d,kP=g,(d+j)*a.bytes<=140737488355328])
    |_,_,_=>q
   |_=>q
  |.q (.aq (.R o (.S w s 0 d)))=>match c' o k with
   |some (.h l n e kP)=>match af l r,af s a.size,af n a.size with
    |true,f,f=>eW (dc.cr o (.h r a.size (e+j) (cg e kP b)) k) λi=>h (cD o (.S (e+j) a.size 0 (e+j)),i,[w=e,d=e,(e+j)*a.bytes<=140737488355328])
    |_,_,_=>q
   |_=>q
  |_=>q
def DH(d:p (Nat×bx))(g:p (Nat×bL))(a:bJ)(b:p an)(j:ap):Option (z×p an×p Prop):=
 match j.op with
 |.alloc _|.box _ _=>yP d a b j
 |.store k l n=>match yP d a b j with
  |some r=>h r
  |none=>Et d a b k l n
 |.call e=>match e.callee with
  |.builtin .append=>match e.args.toList,e.argTypes.toList with
   |[l,n],[k,o]=>AX d (bG a) b l n k o
   |_,_=>q
  |.value i=>BL g a b i e.args.toList
  |_=>q
 |_=>q
def AW(j:p (Nat×bx))(e:aA->z)(n o:aA)(l k:av):Option (z×p Prop):=
 match uM j e o l k with
 |none=>q
 |some (_,b,i,a)=>match e n with
  |.q (.aq (.c (.S f r d g)))=>match af d 0 with
   |true=>h (ax (.S m b.size (d+i) (cg d g a)),[(d+i)*b.bytes<=140737488355328,d=0∨0<i])
   |false=>q
  |_=>q
def DF(d:p (Nat×bx))(b:bJ)(g:ap):Option (z×p Prop):=
 match g.op with
 |.call a=>match a.callee with
  |.builtin .append=>match a.args.toList,a.argTypes.toList with
   |[j,k],[i,e]=>AW d (bG b) j k i e
   |_,_=>q
  |_=>q
 |_=>q
def vy:p (Nat×Bool)->Nat->Option Bool
 |[],_=>q
 |(d,b)::e,a=>match af d a with|true=>h b|false=>vy e a
def Da(a:p (Nat×Bool)):Option Nat->Bool
 |none=>m
 |some b=>match vy a (2000000+b)with
  |some f=>f
  |_=>m
def aah(a:p (Nat×Bool)):Option Nat->Bool
 |none=>m
 |some b=>match vy a (3000000+b)with
  |some f=>f
  |_=>m
def AY(t:av)(a:bx)(d:aA->z)(u:p an)(y A:aA):Option (z×p an×p Prop):=
 match d y,d A with
 |.q (.aq (.R e (.S w x 0 n))),.q (.aq (.R s (.S l o v g)))=>match af s e with
  |false=>q
  |true=>match c' e u with
   |some (.h i r b k)=>match af i t,af x a.size,af o a.size,af r a.size with
    |true,f,f,f=>eW (dc.cr e (.h t a.size b (qN n v g k)) u) λj=>h (cD e (.S b a.size 0 (n+g)),j,[w=b,l=b,n+g<=b,v+g<=b])
    |_,_,_,_=>q
   |_=>q
 |_,_=>q
def AZ(u:Bool)(l:p (Nat×bx))(b:aA->z)(i:p an)(r s:aA)(o n:av):Option (z×p an×p Prop):=
 match u with
 |true=>match uM l b s o n with
  |none=>q
  |some (g,a,e,d)=>match b r with
   |.q (.aq (.c (.S f _ t k)))=>match af t 0 with
    |true=>eW (i++[.h g a.size (0+e) (cg 0 k d)]) λj=>h (cD (c i) (.S (0+e) a.size 0 (0+e)),j,[(0+e)*a.bytes<=140737488355328])
    |false=>q
   |_=>q
 |false=>match xc l o n with
  |none=>q
  |some (g,a)=>AY g a b i r s
def yR(k:Bool)(d:p (Nat×bx))(b:bJ)(e:p an)(i:ap):Option (z×p an×p Prop):=
 match i.op with
 |.call a=>match a.callee with
  |.builtin .append=>match a.args.toList,a.argTypes.toList with
   |[l,n],[j,g]=>AZ k d (bG b) e l n j g
   |_,_=>q
  |_=>q
 |_=>q
def vI(i:p (Nat×Bool))(e:p (Nat×bx))(b:p (Nat×bL))(d:bJ)(g:p an)(a:ap):Option (z×p an×p Prop):=
 match aah i a.dst with
 |true=>yR f e d g a
 |false=>match DH e b d g a with
  |some j=>h j
  |none=>yR m e d g a
def u7(b:p (Nat×Bool))(g:Option Nat)(d:z)(a:p Prop):Option (z×p Prop):=
 match g with
 |none=>h (d,a)
 |some j=>match vy b j with
  |none=>h (d,a)
  |some e=>match d with
   |.q (.aq (.c (.bool i)))=>h (ax (.bool e),gJ a [i=e])
   |_=>q
def S7{d}{l X}{b}(a:u7 bh d l ck=h (X,b))(e:U b):X=l/\U ck:=by
 unfold u7 at a;split at a
 .grind
 split at a
 .grind
 split at a
 .cases a;simp_all
 grind
def hG(k:p (Nat×bx))(g:p (Nat×bL))(d:p (Nat×Bool))(i:p ap)(j:bJ)(r:p an)(e:ap):Option (z×Option (p an)×p Prop):=
 let go:Option (z×Option (p an)×p Prop):=match px k g j r e with
  |some (b,a)=>match u7 d e.dst b a with
   |some (o,s)=>pn o λo=>h (o,q,s)
   |none=>q
  |none=>match Da d e.dst with
   |true=>match DF k j e with
    |some (b,a)=>pn b λb=>h (b,q,a)
    |none=>q
   |false=>match vI d k g j r e with
    |some (b,l,a)=>pn b λb=>h (b,h l,a)
    |none=>q
 match e.guard with
 |none=>go
 |some (u,t)=>match yo j i u with
  |some (h n)=>match t,n with
   |true,f=>go
   |false,m=>go
   |_,_=>h (.Q [],q,[])
  |some q=>h (.Q [],q,[])
  |none=>q
section
variable {r:aj P}{ad:p (Nat×bx)}{CT:p (Nat×bL)}
def Gu(aR:bn P ad){g}{a5}(j:t.op=.call {callee:=.builtin .append,args:=#[l,X],argTypes:=#[o,g]})(a:xc ad o g=h (W,a5)):j9 P t l X W a5:=by
 unfold xc at a;split at a
 .cases a
 rename_i k i;split at a
 .cases a
 rename_i ce d;split at a
 case h_2=>cases a
 rename_i W r;split at a
 case h_2=>cases a
 rename_i n b;split at a
 .cases a
 rename_i p;have s:=dp p;subst s;split at a
 .cases a
 rename_i a5 e;split at a
 case h_2=>cases a
 rename_i u v;cases a;exact⟨⟨o,g,k,ce,j,aR o k i,r,aR g ce d,b⟩,aR _ _ e,by exact lL,by exact lL⟩
def A0(aR:bn P ad){j}{a5}{a:Nat->p N}(k:t.op=.call {callee:=.builtin .append,args:=#[l,X],argTypes:=#[o,j]})(b:uM ad η X o j=h (W,a5,A,a)):
  j9 P t l X W a5/\∃d,∀i e g,bz i e g (η X)->Rd e.u g (.S d a5.size A a):=by
 unfold uM at b;split at b
 .cases b
 rename_i s;split at b
 .cases b
 rename_i d v A a n;split at b
 .cases b
 rename_i r;have u:=dp r;subst u;cases b;exact⟨Gu aR k s,d,λi e g=>tL n i e g⟩
theorem Sa(aR:bn P ad)(A:∀n p s,bY D n p F s->aU t (yielded all.toArray s.tmps)=f){x}{v}(g:t.op=.call {callee:=.builtin .append,args:=#[l,X],argTypes:=#[o,x]})(a:AW ad (bG F) l X o x=h (v,ck))(u:U ck):aV r D all t F n v n:=by
 unfold AW at a;split at a
 .cases a
 rename_i y B I w d;obtain⟨z,C,b⟩:=A0 aR g d;have b:=λp E=>b n p E;split at a
 .rename_i i k T j;split at a
  .rename_i e;cases a;exact(aV.a2 A (a1.ga z j (.inr (dp e)) b u.1 u.2)).e1
  grind
 grind
theorem Sb(aR:bn P ad){D}{E}(u:t.op=.call {callee:=.builtin .append,args:=#[l,X],argTypes:=#[o,D]})(a:AX ad η n l X o D=h (E,ao,ck))(e:U ck):a1 P t η n E ao:=by
 unfold AX at a;split at a
 .cases a
 rename_i I K S F s;obtain⟨j,Q,g⟩:=A0 aR u s;have g:=λM R=>g n M R;split at a
 .rename_i i k T b;split at a
  .rename_i b2;rw[hA]at a;cases a;exact a1.ga j b (.inl (dp b2)) g e.1 e.2
  split at a
  .rename_i J;rw[hA]at a;cases a;exact a1.ga j b (.inr (dp J)) g e.1 e.2
  grind
 .rename_i d i k T b;split at a
  .rename_i W N p kP gM;split at a
   .rename_i A x B;rw[hA,mV]at a;cases a;obtain⟨v,O,y⟩:p=k/\kP=T/\_:=e;subst v;subst O;have w:=dp A;subst w;have z:=dp x;have r:=dp B;subst r;subst z;exact a1.ir j b (eo gM) g y
   grind
  grind
 .rename_i d C i k b;split at a
  .rename_i W N p kP gM;split at a
   .rename_i A x B;rw[hA,mV]at a;cases a;obtain⟨v,O,y⟩:C=p/\k=p/\_:=e;subst v;subst O;have w:=dp A;subst w;have z:=dp x;have r:=dp B;subst r;subst z;exact a1.ij j b (eo gM) g y
   grind
  grind
 grind
theorem aar(aR:bn P ad){g}(d:t.op=.call {callee:=.builtin .len,args:=#[l],argTypes:=du})(p:du[0]?=h o)(a:Dg ad o (η l)=h g):a1 P t η n g n:=by
 unfold Dg at a;split at a
 .cases a
 rename_i u b;split at a
 .rename_i W j;split at a
  .rename_i eT i k T e;cases a;exact a1.jw aR d p b j (λr s=>tL e n r s)
  grind
 .grind [a1.jx]
 grind
theorem ST(aR:bn P ad){j s}{u}(o:t.op=.convert j s l)(a:B0 ad j s (η l)=h (u,ck))(v:U ck):a1 P t η n u n:=by
 unfold B0 at a;split at a
 .cases a
 rename_i E g;split at a
 .cases a
 rename_i ce b;split at a
 .rename_i z e;split at a
  .rename_i i w A;cases a;exact a1.iM aR o g b e A v
  grind
 .rename_i e;split at a
  .grind [a1.iN]
  split at a
  .rename_i W C;split at a
   .rename_i a5 p;split at a
    .rename_i y;split at a
     .rename_i eT i k T r;split at a
      .rename_i b2;have x:=dp b2;subst x;split at a
       .rename_i F d;cases a;exact a1.iK aR o g b C e p y (λB D=>tL r n B D) d
       grind
      grind
     grind
    grind
   grind
  grind
 grind
theorem acL(aR:bn P ad){e0 bq}{b}(d:t.op=.slice o l e0 bq q)(a:Eh ad η o l e0 bq=h (b,ck))(e:U ck):a1 P t η n b n:=by
 unfold Eh at a;split at a
 .cases a
 rename_i k g;split at a
 .cases a
 rename_i p j;split at a
 .cases a
 rename_i r i;split at a
 .grind [a1.j7]
 .grind [Nat.eq_of_beq_eq_true,a1.j6,tL]
 grind
theorem A1{a:Array α}{b:α}(d:a.toList=[b]):a=#[b]:=Array.ext' d
theorem A2{a:Array α}{b d:α}(e:a.toList=[b,d]):a=#[b,d]:=Array.ext' e
theorem aa6(aR:bn P ad)(L:a9 r CT){I:z}(u:yQ ad CT F t=h (I,ck))(p:U ck)(ba:∀n x g,bY D n x F g->aU t (yielded all.toArray g.tmps)=f):aV r D all t F n I n:=by
 unfold yQ at u;split at u
 .grind [aV.a2,a1.move]
 .grind [aV.a2,a1.assign]
 .rename_i o l X a;split at u
  .rename_i e bq;split at u
   .rename_i B;split at u
    .rename_i d i w b O;cases u;obtain⟨M,K⟩:0<=w/\w<(c d:Int):=p;have:=a1.js (n:=n) (A:=w.toNat) aR a bq B b O y y;have J:kN d w=d[w.toNat]'y:=by simp[kN,al,bK (by omega:w.toNat<c d)]
     grind[aV.a2]
    grind
   grind
  grind
 .rename_i o l X a;split at u
  .rename_i e bq;split at u
   .rename_i W B;split at u
    .rename_i a5 v;split at u
     .rename_i eT i k T S w b O;split at u
      .rename_i b2;cases u;obtain⟨M,K⟩:0<=w/\w<(k:Int):=p;have J:=dp b2;subst J;exact aV.a2 ba (a1.indexAddr (A:=w.toNat) aR a bq B v (λx V=>tL b n x V) O y y)
      grind
     grind
    grind
   grind
  grind
 .grind [aV.a2,acL]
 .grind [aV.a2,ST]
 .rename_i s a;obtain⟨H,args,E⟩:=s;grind[A1,aV.a2,aar,aV.iG]
 .rename_i s g j bd;split at u
  .exact O0
  .exact O0
  grind
 .rename_i op o X Z ty bd;unfold GD at u;split at u
  .grind [aV.a2,a1.iD]
  .rename_i g j _ N C;split at u
   .split at u
    .rename_i _ _ Q R _ _;cases u;exact aV.a2 ba (a1.kt bd N C p.1 p.2)
    .exact zQ
    grind
   .exact zQ
   .exact zQ
   .exact zQ
   grind[aV.a2,a1.binOp]
  .rename_i ah T N C;split at u
   .grind [aV.a2,a1.km]
   grind
  grind
 .grind [aV.a2,a1.unOp]
 .grind [aV.a2,a1.extract,eo]
 .rename_i o X Y bd;split at u
  .rename_i i w G;split at u
   .rename_i d off b;cases u;exact aV.a2 ba (a1.ha aR bd b G)
   .grind [aV.a2,a1.hc]
   grind
  grind
 .grind [aV.a2,a1.field]
 .grind [aV.a2,a1.hI,a1.hJ]
 .grind [aV.a2,a1.build]
 .grind [aV.a2,a1.buildSlice]
 .grind [aV.a2,a1.makeFunc]
 .grind [aV.a2,a1.makeInterface]
 .grind [aV.a2,a1.typeAssert]
 grind
theorem aa3(aR:bn P ad){J:z}(a:DE ad F t=h (J,ck))(r:U ck):a1 P t (bG F) n J n:=by
 unfold DE at a;split at a
 .rename_i o l X b;split at a
  .rename_i e bq;split at a
   .rename_i W O;split at a
    .rename_i a5 p;split at a
     .rename_i d C i K A B w g x;split at a
      .rename_i b2;cases a;obtain⟨N,v⟩:0<=w/\w<(A:Int):=r;grind[Nat.eq_of_beq_eq_true,a1.jm]
      grind
     .rename_i j off k cap B w g x;cases a;obtain⟨N,v⟩:0<=w/\w<(k:Int):=r;grind[a1.jo]
     grind
    grind
   grind
  grind
 .rename_i o l ag b;split at a
  .rename_i i w H;split at a
   .rename_i d C aN e K g;cases a;exact a1.i_ aR b g H
   .rename_i j off g;cases a;exact a1.i' aR b g H
   grind
  grind
 .grind [a1.jI]
 .rename_i o l e0 bq b;split at a
  .cases a
  rename_i e D;split at a
  .cases a
  rename_i Y aa;split at a
  .cases a
  grind[Nat.eq_of_beq_eq_true,a1.sliceB]
 .rename_i o l X R b;split at a
  .cases a
  rename_i e D;split at a
  .rename_i W O;split at a
   .cases a
   rename_i a5 p;split at a
   .rename_i eT i k T y w L A g x G;cases a;obtain⟨N,v,E⟩:0<=w/\w<=A/\A<=(k:Int):=r;exact a1.j3 aR b D O p (λM Q=>tL g n M Q) x G N v E
   grind
  grind
 .rename_i o l ah X R b;split at a
  .cases a
  rename_i e D;split at a
  .rename_i W O;split at a
   .cases a
   rename_i a5 p;split at a
   .rename_i d C i K k ab e y w L A g Z x G;cases a;obtain⟨N,v,E,V⟩:0<=e/\e<=w/\w<=A/\A<=(k:Int):=r;grind[a1.slice3B]
   grind
  grind
 .rename_i s b;obtain⟨S,args,I⟩:=s;simp only at a;split at a
  .split at a
   .rename_i l o g ar;split at a
    .rename_i e bq;split at a
     .rename_i W O;split at a
      .grind [A1,a1.ju]
      .rename_i ae k cap u;cases a;have:=A1 g;subst this;exact a1.jy aR b ar bq O u r
      grind
     grind
    grind
   grind
  grind
 grind
theorem aaw(aR:bn P ad)(b:t.op=.load o l){p}(a:yy ad F n o l=h (p,ck))(g:U ck):a1 P t (bG F) n p n:=by
 unfold yy at a;split at a
 .rename_i w bq;split at a
  .rename_i d C i e v s;split at a
   .rename_i W u k T aE;split at a
    .rename_i b2;have r:=dp b2;subst r;split at a
     .rename_i r j;cases a;exact a1.e9 aR b s g.1 (eo aE) bq j g.2
     grind
    grind
   grind
  grind
 grind
theorem adc(aR:bn P ad)(j:t.op=.store o l X){y}(a:Et ad F n o l X=h (y,ao,ck))(r:U ck):a1 P t (bG F) n y ao:=by
 unfold Et at a;split at a
 .rename_i B bq;split at a
  .rename_i d C i e u s;split at a
   .rename_i W v k T aE;split at a
    .rename_i b2;have z:=dp b2;subst z;split at a
     .rename_i new p;split at a
      .rename_i w;split at a
       .rename_i gK b;split at a
        .rename_i A;rw[hA,mV]at a;cases a;have x:u=0/\c gK=v:=by
          cases u with
          |zero=>exact⟨rfl,dp A⟩
          |succ u=>exact cU
         obtain⟨rfl,x⟩:=x;exact a1.h9 aR j s r.1 (eo aE) bq p (dp w) b (λD=>Mj M) r.2
        split at a
        .rename_i ci g;rw[hA,mV]at a;cases a;exact a1.h9 aR j s r.1 (eo aE) bq p (dp w) b (λ_=>g) r.2
        grind
       grind
      grind
     grind
    grind
   grind
  grind
 grind
theorem aa8(aR:bn P ad)(i:a9 r CT){d}(a:px ad CT F n t=h (d,ck))(g:U ck)(l:∀n e b,bY D n e F b->aU t (yielded all.toArray b.tmps)=f):aV r D all t F n d n:=by
 unfold px at a;split at a
 .rename_i o X k;split at a
  .rename_i C j;cases a;unfold Dk at j;split at j
   .grind [aV.a2,a1.hv,eo,a1.hy]
   grind
  grind[aV.a2,aaw]
 grind[aa6,aV.a2,aa3]
theorem aa4(aR:bn P ad)(o:a9 r CT){d:z}(e:DH ad CT F n t=h (d,ao,ck))(j:U ck)(l:∀n i a,bY D n i F a->aU t (yielded all.toArray a.tmps)=f):aV r D all t F n d ao:=by
 unfold DH at e;split at e
 .grind [aV.a2,DG]
 .grind [aV.a2,DG]
 .grind [aV.a2,DG,adc]
 .rename_i s g;obtain⟨k,args,b⟩:=s;grind[A2,aV.a2,Sb,aV.call]
 grind
def Sc{a5}{g}(p:j9 P t l X W a5)(a:AY W a5 η n l X=h (g,ao,ck))(j:U ck):a1 P t η n g ao:=by
 unfold AY at a;split at a
 .rename_i d C i e y v x w A J B;split at a
  .cases a
  rename_i r;have b:=dp r;subst b;split at a
  .rename_i N K k T gM;split at a
   .rename_i o DW tx DX;have s:=dp o;have I:=dp DW;have u:=dp tx;have D:=dp DX;rw[hA]at a;cases a;obtain⟨O,F,z,E⟩:=j;subst O F s I u D;have:=a1.ik (n:=n) p J B (eo gM) z E;grind[mV]
   grind
  grind
 grind
theorem Sd(aR:bn P ad){D}{r}{p}(b:t.op=.call {callee:=.builtin .append,args:=#[l,X],argTypes:=#[o,r]})(a:AZ D ad η n l X o r=h (p,ao,ck))(j:U ck):a1 P t η n p ao:=by
 unfold AZ at a;split at a
 .split at a
  .cases a
  rename_i u z E s d;obtain⟨v,B,w⟩:=A0 aR b d;split at a
  .rename_i i k T g;split at a
   .rename_i e;have x:=dp e;subst x;rw[hA]at a;cases a;exact a1.im v g (λA C=>w _ A C) j
   grind
  grind
 split at a
 .cases a
 rename_i y;exact Sc (Gu aR b y) a j
theorem aa5(aR:bn P ad)(p:a9 r CT){a:z}(b:vI bh ad CT F n t=h (a,ao,ck))(k:U ck)(o:∀n j d,bY D n j F d->aU t (yielded all.toArray d.tmps)=f):aV r D all t F n a ao:=by
 have key:∀g,yR g ad F n t=h (a,ao,ck)->aV r D all t F n a ao:=by
  intro g b;unfold yR at b;split at b
  .rename_i s i;obtain⟨l,args,e⟩:=s;grind[A2,aV.a2,Sd]
  grind
 unfold vI at b;grind[aa4]
def eh(aR:bn P ad)(J:a9 r CT){j}{ao}(a:hG ad CT bh all F n t=h (j,ao,ck))(z:U ck):aV r D all t F n j (ao.getD n):=by
 have go:(∀n g d,bY D n g F d->aU t (yielded all.toArray d.tmps)=f)->(match px ad CT F n t with
  |some (b,ck)=>match u7 bh t.dst b ck with
   |some (l,y)=>pn l λl=>h (l,q,y)
   |none=>q
  |none=>match Da bh t.dst with
   |true=>match DF ad F t with
    |some (b,ck)=>pn b λb=>h (b,q,ck)
    |none=>q
   |false=>match vI bh ad CT F n t with
    |some (b,ao,ck)=>pn b λb=>h (b,h ao,ck)
    |none=>q)=h (j,ao,ck)->aV r D all t F n j (ao.getD n):=by
  intro O a;split at a
  .rename_i b e K;split at a
   .rename_i l A B;rw[vh]at a;cases a;obtain⟨rfl,M⟩:=S7 B z;grind[aa8]
   grind
  split at a
  .split at a
   .rename_i b e k;rw[vh]at a;cases a;unfold DF at k;split at k
    .rename_i s x;obtain⟨I,args,p⟩:=s;grind[A2,Sa]
    grind
   grind
  grind[vh,aa5]
 unfold hG at a;simp only at a;split at a
 .grind [ja]
 rename_i E u v;split at a
 .rename_i w o;have C:∀n g d,bY D n g F d->aU t (yielded all.toArray d.tmps)=(h w==h u):=λn g d i=>by simp only[aU,v,yp o i]
  split at a
  .grind
  .grind
  cases a;refine aV.hV (λn g d i=>(C n g d i).trans ?_);cases u<;>cases w<;>simp_all
 .rename_i o;cases a;exact aV.hV (λn g d i=>by simp only[aU,v,yp o i];rfl)
 grind
end
variable {CT:p (Nat×bL)}{ar:p il}{bf:fw}{ad:p (Nat×bx)}{a5:bx}
def mL(a:bJ)(b:ap):Bool:=match b.op with
 |.load _ d=>match bG a d with
  |.q (.aq (.c (.O _)))=>m
  |_=>f
 |_=>m
def aa7{fa}(d:mL F t=m):px ad CT F n t=px ad CT F fa t:=by
 unfold px;split
 .rename_i o l a;simp[mL,a]at d;split at d
  .rename_i ah b;simp[Dk,yy,b]
  grind
 simp
def aa9{d}(k:mL F t=m)(a:hG ad CT bh all F n t=h (d,q,ck))(fa):
  hG ad CT bh all F fa t=h (d,q,ck):=by
 unfold hG at a⊢;simp only at a⊢;rw[aa7 (fa:=n) k];cases j:px ad CT F n t with
 |some l=>grind
 |none=>
  simp[j]at a⊢;cases i:Da bh t.dst with
  |true=>grind
  |false=>
   simp[i]at a⊢;have key:∀{g:Option (z×Option (p an)×p Prop)},(match vI bh ad CT F n t with|some (e,b,ck)=>pn e λe=>h (e,h b,ck)|none=>q)=g->g≠h (d,q,ck):=by grind[vh]
   split at a
   .grind
   grind
def jU(a:Nat):p ap->Bool
 |[]=>m
 |e::b=>match e.dst with
  |some d=>match af d a with|true=>f|false=>jU a b
  |none=>jU a b
theorem vm{o}:∀{d:p ap}{e:Nat}{a:ap},d[e]?=h a->a.dst=h o->jU o d=f
 |[],_,_,u,_=>by grind
 |i::g,0,a,u,b=>by simp at u;subst u;simp[jU,b,sG]
 |i::g,e+1,a,u,b=>by have:=vm (d:=g) wF b;simp[jU];grind
theorem C3{o}:∀{b:p ap},jU o b=f->∃(e:Nat)(t:ap),b[e]?=h t/\t.dst=h o
 |[],u=>by cases u
 |d::k,u=>by
  simp[jU]at u;split at u
  .rename_i g s;split at u
   .rename_i i;exact⟨0,d,a,by grind[Nat.eq_of_beq_eq_true]⟩
   exact Q1
  exact Q1
def kW:p ap->Bool
 |[]=>f
 |d::a=>match d.dst with
  |some b=>match jU b a with|true=>m|false=>kW a
  |none=>kW a
theorem DD{o}:∀{l:p ap}{g i:Nat}{b d:ap},kW l=f->l[g]?=h b->l[i]?=h d->b.dst=h o->d.dst=h o->g=i
 |[],_,_,_,_,_,u,_,_,_=>by grind
 |n::e,0,0,_,_,_,_,_,_,_=>rfl
 |n::e,0,i+1,b,d,a,j,k,d1,d2=>by simp at j;subst j;simp[kW,d1]at a;grind[vm]
 |n::e,g+1,0,b,d,a,j,k,d1,d2=>by simp at k;subst k;simp[kW,d2]at a;grind[vm]
 |n::e,g+1,i+1,b,d,a,j,k,d1,d2=>by
  have:kW e=f:=by simp[kW]at a;grind
  have s:e[g]?=h b:=M;have r:e[i]?=h d:=M;have t:=DD this s r d1 d2;omega
def mT(a:p ap):bJ->bJ
 |[]=>[]
 |(d,e)::b=>match jU d a with|true=>mT a b|false=>(d,e)::mT a b
def tm{all}{o}:∀{b:bJ},look (mT all b) o=if jU o all=f then .any else look b o
 |[]=>by simp[mT,look]
 |(a,j)::k=>by
  simp[mT];by_cases g:af a o=f
  .have i:=dp g;subst i;cases e:jU a all with
   |true=>simp only;rw[tm];grind
   |false=>simp[look]
  have d:af a o=m:=M;cases e:jU a all with
  |true=>simp only;rw[tm];simp[look,d]
  |false=>simp[look,d,cond];rw[tm]
def c_:p Edge->p Nat
 |[]=>[]
 |b::a=>match b.ground with
  |.textOnly _=>c_ a
  |.gcOnly _=>c_ a
  |_=>b.on::c_ a
theorem l6{w}:∀{d:p Edge},w∈c_ d↔∃a∈d,eP a=f/\a.on=w
 |[]=>by simp[c_]
 |a::b=>by
  have l:=l6 (w:=w) (d:=b);have i:c_ (a::b)=a.on::c_ b->eP a=f->(w∈c_ (a::b)↔∃e∈a::b,eP e=f/\e.on=w):=M;have g:c_ (a::b)=c_ b->eP a=m->(w∈c_ (a::b)↔∃e∈a::b,eP e=f/\e.on=w):=M;cases j:a.ground with
  |textOnly k=>exact g EW NI
  |gcOnly k=>exact g EW NI
  |_=>exact i EW (by unfold eP Region.binds;rw[j])
def nx(a b:Nat):p ap->Bool
 |[]=>m
 |e::d=>match e.dst with
  |some g=>match af g b with
   |true=>match eg a (c_ e.after.toList)with
    |true=>nx a b d
    |false=>f
   |false=>nx a b d
  |none=>nx a b d
def JN{e o}:∀{j:p ap},nx e o j=m->∀(d:Nat)a,j[d]?=h a->a.dst=h o->eg e (c_ a.after.toList)=f
 |[],_,d,a,b,_=>by grind
 |l::k,b,0,a,i,g=>by simp at i;subst i;simp[nx,g,sG]at b;grind
 |l::k,b,d+1,a,i,g=>by
  have:nx e o k=m:=by simp[nx]at b;grind
  exact JN this d a M g
def oG(a:p ap):bJ->p (Nat×z×Bool)
 |[]=>[]
 |(b,d)::e=>match jU b a with
  |true=>(b,d,f)::oG a e
  |false=>(b,d,m)::oG a e
def hf(b:Nat)(a:p ap):p (Nat×z×Bool)->bJ
 |[]=>[]
 |(e,g,i)::d=>match i with
  |false=>(e,g)::hf b a d
  |true=>match nx b e a with
   |true=>hf b a d
   |false=>(e,g)::hf b a d
def Kn{e}{all}{o}:∀{F:bJ},look (hf e all (oG all F)) o=if jU o all=f/\nx e o all=f then .any else look F o
 |[]=>by simp[oG,hf,look]
 |(bC,b)::a=>by
  have i:=Kn (e:=e) (all:=all) (o:=o) (F:=a);have g:look ((bC,b)::hf e all (oG all a)) o=if af bC o=f then b else look (hf e all (oG all a)) o:=Rv;have d:look ((bC,b)::a) o=if af bC o=f then b else look a o:=Rv;cases x:jU bC all with
  |false=>
   simp[oG,x,hf];exact ug
  |true=>
   cases ai:nx e bC all with
   |true=>
    exact Oo
   |false=>
    exact Oo
def fR(d:Nat->Bool):Nat->p (Option Nat×z)->bJ->bJ
 |_,[],a=>a
 |b,(g,j)::e,a=>match d b with
  |true=>match g with
   |some i=>(i,j)::fR d (b+1) e a
   |none=>fR d (b+1) e a
  |false=>fR d (b+1) e a
def vz{A:Nat->Bool}{F}{o}:∀{d:p (Option Nat×z)}{e:Nat},(∃w b,d[w]?=h (h o,b)/\A (e+w)=f/\look (fR A e d F) o=b)∨look (fR A e d F) o=look F o
 |[],e=>.inr rfl
 |(i,b)::g,e=>by
  have u:=vz (A:=A) (F:=F) (o:=o) (d:=g) (e:=e+1);have step:look (fR A e ((i,b)::g) F) o=look (fR A (e+1) g F) o->((∃w j,((i,b)::g)[w]?=h (h o,j)/\A (e+w)=f/\look (fR A e ((i,b)::g) F) o=j)∨look (fR A e ((i,b)::g) F) o=look F o):=by
   intro n;rw[n];rcases u with⟨w,j,t,k,C⟩|x
   .exact .inl ⟨w+1,j,by grind,by grind,C⟩
   grind
  cases l:A e with
  |false=>exact step (by simp[fR,l])
  |true=>
   cases i with
   |none=>exact step (by simp[fR,l])
   |some r=>
    by_cases v:af r o=f
    .have n:=dp v;subst n;exact .inl ⟨0,b,a,by grind,by simp[fR,l,look]⟩
    have s:af r o=m:=M;exact step (by simp[fR,l,look,s])
structure k5 where
 a_:Nat
 pre:p (Option Nat×z)
 b:p an
 cf:p (p Bool)
 dD:p Bool
 dG:p Bool
 cB:p Prop
def tn(a:Nat):p Nat->Bool
 |[]=>f
 |b::d=>match Nat.blt b a with|true=>tn a d|false=>m
def Dm{e}:∀{g:p Nat},tn e g=f->∀d∈g,d<e
 |[],_,d,b=>by grind
 |j::k,b,d,a=>by
  simp[tn]at b;cases i:Nat.blt j e with
  |false=>grind
  |true=>
   simp[i]at b;rcases e4.1 a with rfl|a
   .simp_all
   exact Dm b d a
def gv:p Bool->Nat->Bool
 |[],_=>m
 |a::_,0=>a
 |_::d,b+1=>gv d b
def jX:p Bool->p Bool->p Bool
 |[],b=>b
 |true::a,[]=>f::a
 |false::a,[]=>m::a
 |true::a,_::b=>f::jX a b
 |false::a,f::b=>f::jX a b
 |false::a,m::b=>m::jX a b
def qi:∀{a b:p Bool}{d:Nat},gv (jX a b) d=(gv a d||gv b d)
 |[],b,d=>by exact cU
 |true::a,[],d=>by simp[jX,gv]
 |false::a,[],d=>by simp[jX,gv]
 |true::a,e::b,0=>by exact cU
 |true::a,e::b,d+1=>by simp[jX,gv];exact qi
 |false::a,f::b,0=>by exact cU
 |false::a,f::b,d+1=>by simp[jX,gv];exact qi
 |false::a,m::b,0=>by exact cU
 |false::a,m::b,d+1=>by simp[jX,gv];exact qi
def nH:Nat->p Bool
 |0=>[f]
 |a+1=>m::nH a
theorem xj:∀{b a:Nat},gv (nH b) a=decide (b=a)
 |0,0=>rfl
 |0,a+1=>by exact cU
 |b+1,0=>by exact cU
 |b+1,a+1=>by simp only[nH,gv,xj];simp
def lN(a:p (p Bool)):p Nat->p Bool
 |[]=>[]
 |b::d=>match c' b a with
  |some e=>jX (jX e (nH b)) (lN a d)
  |none=>jX (nH b) (lN a d)
theorem BU{j}{w}:∀{l:p Nat},gv (lN j l) w=f->∃d∈l,d=w∨∃b,j[d]?=h b/\gv b w=f
 |[],a=>by exact cU
 |d::n,a=>by
  simp[lN,lk]at a;have q1:∀{k:Nat},gv (nH d) k=f->d=k:=by grind[xj]
  have i:gv (lN j n) w=f->∃g∈d::n,g=w∨∃b,j[g]?=h b/\gv b w=f:=by intro a;obtain⟨g,r,o⟩:=BU a;grind
  split at a
  .rename_i b e;rw[qi,qi,jK,jK]at a;grind
  rw[qi,jK]at a;grind
def pK:p Bool->p Bool->Bool
 |[],_=>f
 |true::a,f::b=>pK a b
 |true::_,_=>m
 |false::a,_::b=>pK a b
 |false::a,[]=>pK a []
theorem tP:∀{b d:p Bool}{w:Nat},pK b d=f->gv b w=f->gv d w=f
 |[],d,w,_,a=>by exact cU
 |true::b,f::d,0,_,_=>rfl
 |true::b,f::d,w+1,e,a=>by simp[gv]at a⊢;exact tP cU a
 |true::b,m::d,w,e,_=>by exact cU
 |true::b,[],w,e,_=>by exact cU
 |false::b,g::d,0,_,a=>by exact cU
 |false::b,g::d,w+1,e,a=>by simp[gv]at a⊢;exact tP cU a
 |false::b,[],0,_,a=>by exact cU
 |false::b,[],w+1,e,a=>by simp[gv]at a;have:=tP (w:=w) (by simpa[pK]using e) a;exact cU
def pJ(v:p (Nat×bx))(n:p (Nat×bL))(u:Nat)(r:p (Nat×Bool))(e:p ap)(l:p (Nat×z×Bool))(a:k5)(k:ap):Option k5:=
 match fg u k.dst with
 |false=>q
 |true=>
  eW (c_ k.after.toList) λi=>
  match tn a.a_ i with
  |false=>q
  |true=>match hG v n r e (fR (λs=>eg s i) 0 a.pre (hf a.a_ e l)) a.b k with
   |none=>q
   |some (t,j,b)=>
    eW (lN a.cf i) λg=>
    match j,mL (fR (λs=>eg s i) 0 a.pre (hf a.a_ e l)) k with
    |none,m=>eW (a.pre++[(k.dst,t)]) λpre=>eW (a.cf++[g]) λd=>eW (gJ b a.cB) λb=>h ⟨a.a_+1,pre,a.b,d,a.dD,a.dG,b⟩
    |none,f=>match pK a.dD g with
     |true=>eW (a.pre++[(k.dst,t)]) λpre=>eW (a.cf++[g]) λd=>eW (gJ b a.cB) λb=>eW (jX a.dG (nH a.a_)) λo=>h ⟨a.a_+1,pre,a.b,d,a.dD,o,b⟩
     |false=>q
    |some j,_=>match pK a.dG g with
     |true=>eW (a.pre++[(k.dst,t)]) λpre=>eW (a.cf++[g]) λd=>eW (gJ b a.cB) λb=>eW (jX a.dG (nH a.a_)) λo=>eW (jX a.dD (nH a.a_)) λw=>h ⟨a.a_+1,pre,j,d,w,o,b⟩
     |false=>q
def y7(k:p (Nat×bx))(d:p (Nat×bL))(j:Nat)(g:p (Nat×Bool))(a:p ap)(e:p (Nat×z×Bool)):p ap->k5->Option k5
 |[],b=>h b
 |l::n,b=>match pJ k d j g a e b l with
  |some i=>y7 k d j g a e n i
  |none=>q
def x0(l:p (Nat×bx))(d:p (Nat×bL))(k:Nat)(i:p (Nat×Bool))(a:p ap)(j:bJ)(n:p an):Option (bJ×p an×p Prop):=
 match kW a with
 |false=>q
 |true=>eW (oG a j) λg=>match y7 l d k i a g a ⟨0,[],n,[],[],[],[]⟩with
  |some b=>eW (fR (λ_=>f) 0 b.pre (mT a j)) λe=>h (e,b.b,b.cB)
  |none=>q
def et:ap:=⟨q,.move (.tmp 0),0,"",#[],q⟩
section
variable (ad:p (Nat×bx))(CT:p (Nat×bL))(D:Nat)(bh:p (Nat×Bool))(all:p ap)(cJ:p (Nat×z×Bool))
def jM(a:k5):Nat->k5
 |0=>a
 |b+1=>(pJ ad CT D bh all cJ (jM a b) (all.getD b et)).getD (jM a b)
def qx(a:k5)(b:Nat):bJ:=fR (λd=>eg d (c_ (all.getD b et).after.toList)) 0 (jM ad CT D bh all cJ a b).pre (hf (jM ad CT D bh all cJ a b).a_ all cJ)
def y6(a:k5)(b:Nat):Option (z×Option (p an)×p Prop):=hG ad CT bh all (qx ad CT D bh all cJ a b) (jM ad CT D bh all cJ a b).b (all.getD b et)
def q3(a:k5)(b:Nat):z:=match y6 ad CT D bh all cJ a b with|some (d,_,_)=>d|none=>.any
def jo(a:k5)(b:Nat):Bool:=match y6 ad CT D bh all cJ a b with|some (_,h _,_)=>f|_=>m
def qz(a:k5)(b:Nat):Bool:=!mL (qx ad CT D bh all cJ a b) (all.getD b et)&&!jo ad CT D bh all cJ a b
def qm(a:k5)(b:Nat):p Bool:=lN (jM ad CT D bh all cJ a b).cf (c_ (all.getD b et).after.toList)
end
section
variable {ad:p (Nat×bx)}{CT:p (Nat×bL)}{D:Nat}{bh:p (Nat×Bool)}{all:p ap}{cJ:p (Nat×z×Bool)}
structure F8(ad:p (Nat×bx))(CT:p (Nat×bL))(D:Nat)(bh:p (Nat×Bool))(all:p ap)(cJ:p (Nat×z×Bool))(b9 r7:k5)(t:ap)(l:z)(ao:Option (p an))(cB:p Prop):Prop where
 dst:fg D t.dst=f
 lt:tn b9.a_ (c_ t.after.toList)=f
 op:hG ad CT bh all (fR (λw=>eg w (c_ t.after.toList)) 0 b9.pre (hf b9.a_ all cJ)) b9.b t=h (l,ao,cB)
 a_:r7.a_=b9.a_+1
 pre:r7.pre=b9.pre++[(t.dst,l)]
 cf:r7.cf=b9.cf++[lN b9.cf (c_ t.after.toList)]
 b:r7.b=ao.getD b9.b
 cB:r7.cB=gJ cB b9.cB
 iS:r7.dD=if ao.isSome=f then jX b9.dD (nH b9.a_)else b9.dD
 jH:r7.dG=if(mL (fR (λw=>eg w (c_ t.after.toList)) 0 b9.pre (hf b9.a_ all cJ)) t||ao.isSome)=f then jX b9.dG (nH b9.a_)else b9.dG
 load:mL (fR (λw=>eg w (c_ t.after.toList)) 0 b9.pre (hf b9.a_ all cJ)) t=f->ao.isSome=m->pK b9.dD (lN b9.cf (c_ t.after.toList))=f
 ca:ao.isSome=f->pK b9.dG (lN b9.cf (c_ t.after.toList))=f
def Mn{b9 i}(b:pJ ad CT D bh all cJ b9 t=h i):∃l d g,F8 ad CT D bh all cJ b9 i t l d g:=by
 unfold pJ at b;split at b
 .cases b
 rename_i k;simp[hA]at b;split at b
 .cases b
 rename_i j;split at b
 .cases b
 rename_i l d g e;refine⟨l,d,g,?_⟩;cases d with
 |none=>
  cases n:mL (fR (λo=>eg o (c_ t.after.toList)) 0 b9.pre (hf b9.a_ all cJ)) t with
  |false=>
   simp[n,hA]at b;cases b;exact⟨k,j,e,a,a,a,a,a,by simp,by grind,by grind,by simp⟩
  |true=>
   simp[n,hA]at b;split at b
   .rename_i s;cases b;exact⟨k,j,e,a,a,a,a,a,by simp,by grind,λ_ _=>s,by simp⟩
   grind
 |some d=>
  simp[hA]at b;split at b
  .rename_i s;cases b;exact⟨k,j,e,a,a,a,a,a,by simp,by simp,by simp,λ_=>s⟩
  grind
def LR{b9 d}:∀{bt:p ap}{i:Nat},(∀a,bt[a]?=all[i+a]?)->y7 ad CT D bh all cJ bt (jM ad CT D bh all cJ b9 i)=h d ->
  (∀a g,bt[a]?=h g->pJ ad CT D bh all cJ (jM ad CT D bh all cJ b9 (i+a)) g=h (jM ad CT D bh all cJ b9 (i+a+1)))/\jM ad CT D bh all cJ b9 (i+c bt)=d
 |[],i,_,b=>by cases b;grind
 |o::r,i,e,b=>by
  simp[y7]at b;have l:all[i]?=h o:=by have:=e 0;grind
  split at b
  .rename_i j k;have n:jM ad CT D bh all cJ b9 (i+1)=j:=by simp[jM,al,l,h4,k]
   rw[<-n]at b;obtain⟨t,s⟩:=LR (bt:=r) (i:=i+1) (λa=>by have:=e (a+1);grind) b;grind
  grind
theorem qM:∀{a:p Nat},eg w a=f->w∈a:=by
 intro a;induction a with
 |nil=>intro b;cases b
 |cons d g e=>
  intro b;simp[eg]at b;exact ug
def Td{aS:aj P}(a6:P.follows Departure.mixedOrders=f)(aR:bn P ad)(aU:a9 aS CT){aQ}(u:x0 ad CT D bh aD.toList F n=h (aQ,ao,ck))(bM:U ck){aN}(bG:aN .normal aQ ao)(id):
  b0 aS D (.region id aD f) aN F n:=by
 unfold x0 at u;split at u
 .cases u
 rename_i bp;rw[hA]at u;split at u
 case h_2=>cases u
 rename_i ah aG;rw[hA]at u;cases u;generalize bH:aD.toList=g at *;generalize aH:oG g F=cJ at *;have bw:∀e:Nat,aD[e]?=g[e]?:=λe=>by grind
 have bf:aD.size=c g:=M;let l:k5:=⟨0,[],n,[],[],[],[]⟩
 obtain⟨bT,bU⟩:=LR (ad:=ad) (CT:=CT) (D:=D) (bh:=bh) (cJ:=cJ) (b9:=l) (bt:=g) (i:=0) (λe=>by simp) aG;simp only[cZ]at bT bU;let k:=jM ad CT D bh g cJ l;have aM:∀e t,g[e]?=h t->g.getD e et=t:=λe t u=>by grind
 have ai:∀e t,g[e]?=h t->qx ad CT D bh g cJ l e=(fR (λj=>eg j (c_ (t).after.toList)) 0 (k e).pre (hf (k e).a_ g cJ)):=λe t u=>by unfold qx;grind
 have C:∀e t,g[e]?=h t->∃br,F8 ad CT D bh g cJ (k e) (k (e+1)) t (q3 ad CT D bh g cJ l e) (if jo ad CT D bh g cJ l e=f then h (k (e+1)).b else q) br:=by
  intro e t cz;obtain⟨aO,z,br,p⟩:=Mn (bT e t cz);have aL:=p.op;have aA:y6 ad CT D bh g cJ l e=h (aO,z,br):=by unfold y6 qx;grind
  have bO:q3 ad CT D bh g cJ l e=aO:=by unfold q3;rw[aA]
  cases z with
  |none=>
   have O:jo ad CT D bh g cJ l e=m:=by unfold jo;rw[aA]
   grind
  |some bl=>
   have O:jo ad CT D bh g cJ l e=f:=by unfold jo;rw[aA]
   have bP:(k (e+1)).b=bl:=p.b;grind
 have bu:∀e,e<=c g->(k e).a_=e:=by
  intro e;induction e with
  |zero=>intro _;rfl
  |succ e N=>
   intro bq;obtain⟨_,p⟩:=C e _ (bK y);rw[p.a_,N y]
 have W:∀e,e<=c g->∀j,(k e).pre[j]?=if j<e then(g[j]?).map (λt=>(t.dst,q3 ad CT D bh g cJ l j))else q:=by
  intro e;induction e with
  |zero=>intro _ j;exact cU
  |succ e N=>
   intro bq j;obtain⟨_,p⟩:=C e _ (bK y);have T:(k e).pre.length=e:=by
    apply Nat.le_antisymm
    .grind
    grind
   rw[p.pre];grind
 have ax:∀e,e<=c g->∀j,(k e).cf[j]?=if j<e then h (qm ad CT D bh g cJ l j)else q:=by
  intro e;induction e with
  |zero=>intro _ j;exact cU
  |succ e N=>
   intro bq j;obtain⟨_,p⟩:=C e _ (bK y);have T:(k e).cf.length=e:=by
    apply Nat.le_antisymm
    .apply Nat.le_of_not_lt;intro aK;have:=N y e;grind
    grind
   rw[p.cf];by_cases S:j<e
   .grind
   rw[hn y];by_cases r:j=e
   .subst r;rw[bs y,T,sE];simp only[mr,qm,aM j _ (bK (by omega:j<c g))];rfl
   grind
 have bC:∀e,e<=c g->∀j,gv (k e).dD j=(decide (j<e)&&jo ad CT D bh g cJ l j):=by
  intro e;induction e with
  |zero=>intro _ j;exact cU
  |succ e N=>
   intro bq j;obtain⟨_,p⟩:=C e _ (bK y);rw[p.iS];cases O:jo ad CT D bh g cJ l e with
   |false=>
    grind
   |true=>
    simp only[dJ,Option.isSome_some];rw[qi,N y j,xj,bu e y];by_cases r:j=e
    .grind
    grind
 have bg:∀e,e<=c g->∀j,gv (k e).dG j=(decide (j<e)&&!qz ad CT D bh g cJ l j):=by
  intro e;induction e with
  |zero=>intro _ j;exact cU
  |succ e N=>
   intro bq j;obtain⟨_,p⟩:=C e _ (bK y);have ag:(if jo ad CT D bh g cJ l e=f then h (k (e+1)).b else q).isSome=jo ad CT D bh g cJ l e:=by cases jo ad CT D bh g cJ l e<;>rfl
   have aq:qz ad CT D bh g cJ l e=!(mL (fR (λj=>eg j (c_ (g[e]'y).after.toList)) 0 (k e).pre (hf (k e).a_ g cJ)) (g[e]'y)||jo ad CT D bh g cJ l e):=by unfold qz;rw[ai e _ (bK y),aM e _ (bK y)];simp
   rw[p.jH,ag];cases O:(mL (fR (λj=>eg j (c_ (g[e]'y).after.toList)) 0 (k e).pre (hf (k e).a_ g cJ)) (g[e]'y)||jo ad CT D bh g cJ l e)with
   |false=>
    grind
   |true=>
    simp only[dJ];rw[qi,N y j,xj,bu e y];by_cases r:j=e
    .grind
    grind
 have V:∀e,e<=c g->U (k e).cB:=by
  have aw:∀i e,e+i=c g->U (k e).cB:=by
   intro i;induction i with
   |zero=>
    grind
   |succ i N=>
    intro e bq;obtain⟨_,p⟩:=C e _ (bK y);have:=N (e+1) y;rw[p.cB,U.Z]at this;exact this.2
  intro e bq;exact aw (c g-e) e y
 have b6:∀e t,g[e]?=h t->aV aS D g t (qx ad CT D bh g cJ l e) (k e).b (q3 ad CT D bh g cJ l e) (k (e+1)).b:=by intro e t cz;have bq:e<c g:=(cQ.1 cz).1;obtain⟨_,p⟩:=C e t cz;have ny:=V (e+1) y;rw[p.cB,U.Z]at ny;have:=eh (P:=P) (D:=D) aR aU p.op ny.1;rw[p.b];grind
 let idx:Nat->Option Nat:=λo=>(aC (c g)).find? (λe=>decide ((g.getD e et).dst=h o));have b7:∀o j,idx o=h j->∃t,g[j]?=h t/\t.dst=h o:=M;have bS:∀e t az,g[e]?=h t->t.dst=h az->idx az=h e:=by
  intro e t az cz Q;have bq:e<c g:=(cQ.1 cz).1;cases bO:idx az with
  |none=>
   grind
  |some j=>
   grind[DD]
 have b':∀o,jU o g=f↔∃j,idx o=h j:=by grind[C3,vm]
 have b_:∀e t,g[e]?=h t->∀r∈t.after,eP r=f->r.on<e:=by intro e t cz r O Y;have bq:e<c g:=(cQ.1 cz).1;obtain⟨_,p⟩:=C e t cz;have:=Dm p.lt r.on (l6.2 ⟨r,by grind,Y,rfl⟩);grind
 have bo:=b_;have Q:rh aS D aD F (λe=>(k e).b) (q3 ad CT D bh g cJ l) (qx ad CT D bh g cJ l) (qz ad CT D bh g cJ l) (λe=>decide (e<c g)&&jo ad CT D bh g cJ l e) (λe j=>e<c g/\gv (qm ad CT D bh g cJ l e) j=f) idx (fR (λ_=>f) 0 ah.pre (mT g F)):=by
  refine⟨a6,M,?_,?_,?_,?_,?_,?_,?_,?_,?_⟩
  .intro e t az cz Q;rw[bw]at cz;obtain⟨_,p⟩:=C e t cz;exact⟨bS e t az cz Q,lf p.dst az Q⟩
  .grind
  .intro e O;rcases dZ e (c g) with bq|bq
   .obtain⟨_,p⟩:=C e _ (bK bq);have:jo ad CT D bh g cJ l e=m:=M;have b5:=p.b;grind
   have bD:g.getD e et=et:=M;show(k (e+1)).b=(k e).b;have:pJ ad CT D bh g cJ (k e) et=q∨∃aJ,pJ ad CT D bh g cJ (k e) et=h aJ:=by
    cases pJ ad CT D bh g cJ (k e) et with
    |none=>grind
    |some aJ=>grind
   show((pJ ad CT D bh g cJ (k e) (g.getD e et)).getD (k e)).b=(k e).b;rw[bD];rcases this with u|⟨aJ,u⟩
   .grind
   rw[u];obtain⟨aO,z,bQ,p⟩:=Mn u;have aL:=p.op;have:z=q:=by unfold hG at aL;simp only[et,px,yQ,u7,vh]at aL;grind
   rw[h4,p.b,this];rfl
  .grind
  .intro e t cz ae;rw[bw]at cz;have bq:e<c g:=(cQ.1 cz).1;have aI:mL (fR (λj=>eg j (c_ (t).after.toList)) 0 (k e).pre (hf (k e).a_ g cJ)) t=m/\jo ad CT D bh g cJ l e=m:=by unfold qz at ae;grind
   refine⟨by grind,λi=>?_⟩;obtain⟨bQ,p⟩:=C e t cz;have aL:=p.op;rw[aI.2]at aL;have aF:=aa9 aI.1 (by simpa using aL) (k i).b;have ny:=V (e+1) y;rw[p.cB,U.Z]at ny;have:=eh (P:=P) (D:=D) aR aU aF ny.1;grind
  .intro L cf e j ⟨bq,Y⟩;have ak:∀e,e<c g->L e->∀r,r∈c_ (g.getD e et).after.toList->L r:=by intro e bq an r O;rw[aM e _ (bK bq)]at O;obtain⟨bz,s,v,rfl⟩:=l6.1 O;grind
   have key:∀e,e<c g->∀j,gv (qm ad CT D bh g cJ l e) j=f->(∀r∈c_ (g.getD e et).after.toList,L r)->L j:=by
    intro e;induction e using Nat.strongRecOn with
    |_ e N=>
     intro bq j Y aX;obtain⟨r,O,u⟩:=BU Y;have aK:r<e:=by have R:=O;rw[aM e _ (bK bq)]at R;obtain⟨bz,s,v,rfl⟩:=l6.1 R;grind
     rcases u with rfl|⟨bW,bI,a2⟩
     .grind
     have:=ax e y r;rw[bs aK]at this;have a1:(k e).cf[r]?=h bW:=bI;rw[a1]at this;cases this;exact N r aK y j a2 (ak r y (aX r O))
   refine⟨λan=>key e bq j Y (ak e bq an),g[e],by grind,λbN=>key e bq j Y ?_⟩;grind[List.getElem?_eq_getElem,l6]
  .intro e Z bq x O b2 au;rw[bf]at bq x;have R:jo ad CT D bh g cJ l Z=f:=M;rcases dZ Z e with aK|b1
   .refine .inl ⟨aK,bq,?_⟩;obtain⟨_,p⟩:=C e _ (bK bq);have K:qm ad CT D bh g cJ l e=lN (k e).cf (c_ (g[e]).after.toList):=by unfold qm;grind
    rw[K];cases a4:jo ad CT D bh g cJ l e with
    |true=>
     have s:=p.ca M;refine tP s ?_;rw[bg e y Z];have:qz ad CT D bh g cJ l Z=m:=by unfold qz;grind
     grind
    |false=>
     have a':mL (fR (λj=>eg j (c_ (g[e]).after.toList)) 0 (k e).pre (hf (k e).a_ g cJ)) g[e]=f:=by unfold qz at au;rw[ai e _ (bK bq),aM e _ (bK bq),a4]at au;grind
     have s:=p.load a' M;grind[tP]
   have aK:e<Z:=y;refine .inr ⟨aK,x,?_⟩;obtain⟨_,p⟩:=C Z _ (bK x);have K:qm ad CT D bh g cJ l Z=lN (k Z).cf (c_ (g[Z]).after.toList):=by unfold qm;grind
   rw[K];have s:=p.ca M;grind[tP]
  .intro e t cz o n b ab aa;rw[bw]at cz;have bq:e<c g:=(cQ.1 cz).1;unfold qx;rw[aM e t cz];rcases vz (A:=λj=>eg j (c_ t.after.toList)) (F:=hf (k e).a_ g cJ) (o:=o) (d:=(k e).pre) (e:=0)with⟨j,aO,s,v,w⟩|w
   .have J:look (fR (λj=>eg j (c_ t.after.toList)) 0 (jM ad CT D bh g cJ l e).pre (hf (jM ad CT D bh g cJ l e).a_ g cJ)) o=aO:=w;rw[J];have B:=W e y j;rw[s]at B;have S:j<e:=M;rw[bs S,bK (by omega:j<c g)]at B;simp only[lH,eV,lI]at B;obtain⟨bd,b4⟩:=B;have aP:=bS j _ o (bK (by omega:j<c g)) bd.symm;rw[aP]at aa;simp only at aa;rw[bs]at aa
    .grind
    have aE:j∈c_ t.after.toList:=by simp only[cZ]at v;exact qM v
    obtain⟨r,bV,ca,bW⟩:=l6.1 aE;grind
   have J:look (fR (λj=>eg j (c_ t.after.toList)) 0 (jM ad CT D bh g cJ l e).pre (hf (jM ad CT D bh g cJ l e).a_ g cJ)) o=look (hf (k e).a_ g cJ) o:=w;rw[J,bu e y,<-aH,Kn];split
   .trivial
   rename_i b3;cases aP:idx o with
   |some j=>
    have cd:=(b' o).2 ⟨j,aP⟩;have bF:nx e o g=m:=M;obtain⟨bj,ba,a3⟩:=b7 o j aP;have bL:=qM (JN bF j bj ba a3);obtain⟨r,O,Y,heq⟩:=l6.1 bL;rw[aP]at aa;simp only at aa;split at aa
    ·
     rename_i a5;obtain⟨cc,bY,bX,bJ⟩:=a5;grind
    rw[bs ⟨bj,by grind,r,by grind,Y,heq⟩]at aa;exact aa
   |none=>grind
  intro o n b ab aa;have bE:k (c g)=ah:=bU;rcases vz (A:=λ_=>f) (F:=mT g F) (o:=o) (d:=ah.pre) (e:=0)with⟨j,aO,s,_,w⟩|w
  .rw[w];have B:=W (c g) (bB _) j;rw[bE,s]at B;have S:j<c g:=M;grind
  rw[w,tm];split
  .trivial
  grind
 intro b bV aq a7 ca cg cb b8 Y a0;have aW:k aD.size=ah:=M;refine .next a λI H=>?_;have H:=aS.bN H;have G:=a7.rely H;have aB:=aq.rely H a7;have X:cP n I n {I with a:={I.a with drawn:=I.a.drawn+1}}:=cP.same rfl rfl rfl rfl;have ar:bc n {I with a:={I.a with drawn:=I.a.drawn+1}}:=G.same rfl;have bk:=H.aQ.trans (X.too5 G);refine⟨_,{I with a:={I.a with drawn:=I.a.drawn+1}},#[],Ee,⟨⟨n,n,G,ar,X⟩,.nil⟩,?_⟩;simp only[Region.schedule,a6,Bool.true_or,dJ];refine Q.eS Y (cI:={I with a:={I.a with drawn:=I.a.drawn+1}}) (λbR bx aT v av=>?_) aD.size _ E ?_ ?_ 0 _ bV y ?_ ?_ ar (.refl _ _) _
 .simp only[aW]at aT v av;exact a0 .normal _ _ bR bx bG aT v (bk.trans av)
 .simp
 .exact FF
 .intro Z x bZ;exact wA
 have aI:=aB.mono (X.too5 G) G.len;refine⟨aI.size,aI.defers,λo=>?_⟩;unfold gD;cases aP:idx o with
 |none=>exact aI.aJ o
 |some j=>
  simp only;rw[bm]
  .exact aI.aJ o
  exact wA
end
section
variable {r:aj P}
theorem g.iP(e:P.follows Departure.mixedOrders=f)(aR:bn P ad)(b:a9 r CT){a}{id}(i:x0 ad CT D bh aD.toList F n=h (a,ao,ck))(d:U ck)(j:g r D bf ar .normal a ao):g r D bf (.code (.region id aD f)::ar) .normal F n:=
 Td e aR b i d j id
end
def r8(x:p (Nat×bx))(o:p (Nat×bL))(l:p (Nat×Bool))(w:Nat)(b:p il)(a:bJ)(e:p an):Option (p il×bJ×p an×p Prop):=
 match b with
 |[]=>q
 |.blk _::b=>h (b,a,e,[])
 |.ae _ []::b=>h (b,a,e,[])
 |.ae g (r::j)::b=>match fg w r.dst with
  |true=>match hG x o l g a e r with
   |some (n,q,d)=>eW (gb r.dst n a) λa=>h (.ae g j::b,a,e,d)
   |some (n,h k,d)=>eW (gb r.dst n a) λa=>h (.ae g j::b,a,k,d)
   |none=>q
  |false=>q
 |.code u::b=>match u with
  |.skip=>h (b,a,e,[])
  |.seq n v=>h (.code n::.code v::b,a,e,[])
  |.block id u=>h (.code u::.blk id::b,a,e,[])
  |.region id i y=>match vy l (id+1000000)with
   |some _=>q
   |none=>match y with
    |false=>h (.ae i.toList i.toList::b,a,e,[])
    |true=>match x0 x o w l i.toList a e with
     |some (s,k,d)=>h (b,s,k,d)
     |none=>q
  |.exit id=>match iS id b with
   |some t=>h (t,a,e,[])
   |none=>q
  |.cond (.tmp z) n v=>match look a z with
   |.q (.aq (.c (.bool f)))=>h (.code n::b,a,e,[])
   |.q (.aq (.c (.bool m)))=>h (.code v::b,a,e,[])
   |_=>q
  |_=>q
theorem ac6{d:aj P}(p:P.follows Departure.mixedOrders=f)(aR:bn P ad)(ai:a9 d CT){C}{a}(u:r8 ad CT bh D ar F n=h (C,a,ao,ck))(cz:U ck)(i:g d D bf C .normal a ao):g d D bf ar .normal F n:=by
 unfold r8 at u;split at u
 .cases u
 .grind [g.iE]
 .grind [g.hU]
 .rename_i all t bt b;cases e:fg D t.dst with
  |false=>grind
  |true=>
   simp[e]at u;have ae:=lf e;split at u
   .rename_i l k j;exact QS
   .rename_i l aM k j;exact QS
   grind
 rename_i o b;split at u
 .grind [g.skip]
 .grind [g.seq]
 .grind [g.block]
 .grind [g.region,g.iP]
 .grind [g.exit]
 .grind [g.cond]
 grind
def kZ(n:p (Nat×bx))(b:p (Nat×bL))(d:p (Nat×Bool))(l:Nat):Nat->p il->bJ->p an->p Prop->Option (p il×bJ×p an×p Prop)
 |0,g,e,i,a=>eW a λa=>h (g,e,i,a)
 |r+1,g,e,i,a=>match r8 n b d l g e i with
  |some (o,j,k,s)=>kZ n b d l r o j k (gJ s a)
  |none=>eW a λa=>h (g,e,i,a)
def LQ{P}{r:aj P}(v:P.follows Departure.mixedOrders=f){ad}(aR:bn P ad){CT}(w:a9 r CT){bh}{D}{bf}:∀{t:Nat}{j o:p il}{i d:bJ}{k e:p an}{b a:p Prop},
  kZ ad CT bh D t j i k b=h (o,d,e,a)->U a->g r D bf o .normal d e->g r D bf j .normal i k/\U b
 |0,j,o,i,d,k,e,b,a,l,n,s=>by simp[kZ,hA]at l;grind
 |t+1,j,o,i,d,k,e,b,a,l,n,s=>by
  simp[kZ]at l;cases x:r8 ad CT bh D j i k with
  |none=>
   grind[hA]
  |some y=>
   obtain⟨A,z,u,E⟩:=y;simp[x]at l;obtain⟨C,B⟩:=LQ v aR w l n s;grind[U.Z,ac6]
def g.aT{b:aj P}(l:P.follows Departure.mixedOrders=f)(aR:bn P ad)(d:a9 b CT)(bh)(k){j}{a}{i}(o:AM.kZ ad CT bh D k ar F n []=h (j,a,ao,i))(e:U i)(p:g b D bf j .normal a ao):g b D bf ar .normal F n:=(LQ l aR d o e p).1
section
variable {r:aj P}
def pE(e:p ResultVar)(b:p Nat)(g:bJ)(a:z):Option (p Prop):=
 match oM g e with
 |some d=>match pt d with
  |some i=>match hQ (c b) a with
   |true=>kt i (e' b a)
   |false=>q
  |none=>q
 |none=>q
def g.aS{fn}{x}{res}(aP)(u:pE fn.results.toList aP F res=h Y)(I:U Y)(b2:∀w,w<x->aP[w]?=h w)(s:dz aP n=h ao:=by exact rfl)(j:l8 ao=f:=by exact rfl)(jr:e_ aP=f:=by exact rfl):
  g r D (bW fn x res ao) (.code .ret::ar) .normal F n:=by refine g.ret ⟨.inl a,aP,?_⟩;unfold pE at u;grind
def g.aw{fn}{res}(u:pE fn.results.toList [] F res=h Y)(x:U Y:=by simp):g r D (bW fn 0 res []) (.code .ret::ar) .normal F n:=
 g.aS [] u x (λw u=>by omega)
def bW.zero{fn}{res}(u:pE fn.results.toList [] F res=h Y)(s:U Y:=by simp):bW fn 0 res [] .ret F n:=by
 refine⟨.inl a,[],?_⟩;unfold pE at u;split at u
 .rename_i bh YJ;split at u
  .rename_i I j;split at u
   .rename_i x;exact⟨bh,I,Y,YJ,j,u,s,x,a,a,a,λw u=>by omega⟩
   grind
  grind
 grind
def g.bu{id}{O:bJ->p an->Prop}{Au}{d C}(k:iS id ar=q)(l:iS id d=h C)(w:g r D Au C .normal F n):
  g r D (λi b e=>match i with
   |.normal=>O b e
   |i=>g r D Au d i b e) (.code (.exit id)::ar) .normal F n:=by
 have key:∀{ar:p il},iS id ar=q->∀{aN:fw},aN (.exit id) F n->g r D aN ar (.exit id) F n:=by
  intro ar;induction ar with
  |nil=>intro _ aN j;exact j
  |cons v A s=>
   intro a aN j;cases v with
   |code z=>exact s (by simpa[iS]using a) j
   |ae x y=>exact s (by simpa[iS]using a) j
   |blk t=>
    simp[iS]at a;cases o:af id t with
    |true=>grind
    |false=>
     simp[o]at a;have u:id≠t:=λi=>by grind[Nat.beq_refl]
     simp[g,u,dn];grind
 exact b0.exit (key k (g.toExit l w))
def g.bV{O:bJ->p an->Prop}{a}{i}(j:a .ret F n):
  g r D (λe b d=>match e with
   |.normal=>O b d
   |e=>g r D a i e b d) (.code .ret::ar) .normal F n:=g.ret (g.dN (bf:=a) j)
def g.again{i:Type}{s:i->Prop}{d:i->bJ}{e:i->p an}{j:i->Nat}{l}{k:fw}(X)(v:iX F (d X)=h Y)(w:U Y)(x:s X)(u:j X<j l)(t:n=e X):
  g r D (λo a b=>match o with
   |.normal=>∃X,s X/\j X<j l/\iC a (d X)/\b=e X
   |o=>k o a b) [] .normal F n:=⟨X,x,u,eG v w,t⟩
def g.eh{j:Type}(i:j->Prop)(a:j->bJ)(b:j->p an)(o:j->Nat)(l)(v:iX F (a l)=h Y)(w:U Y)(x:i l)(u:b l=n)(round:∀l,i l->g r D (λt d e=>match t with
   |.normal=>∃k,i k/\o k<o l/\iC d (a k)/\e=b k
   |t=>g r D bf ar t d e) [.code s] .normal (a l) (b l)):g r D bf (.code (.loop s)::ar) .normal F n:=
 g.loop i a b o l x (eG v w) u round
def kF(args:p z)(a:p an):Prop:=∃b B,b6 a b B args/\bc a b
def kF.at{args}(e:kF args n){a}(g:args[w]?=h a):∃b i,bz n b i a:=by obtain⟨b,B,d,_⟩:=e;obtain⟨_,j⟩:=b6.get d;grind
def kF.V{args}{n}(e:kF args n)(i:Nat){d}(a:args[i]?=h (ax (.V d))):c d<=9223372036854775807:=by
 obtain⟨j,k,g⟩:=e.at a;cases b8 g with
 |V e b=>exact b
def kF.S{args}{n}(g:kF args n)(l:Nat){o}{i k}{a:Nat->p N}(b:args[l]?=h (ax (.S o i k a))):k<=9223372036854775807:=by
 obtain⟨u,v,e⟩:=g.at b;cases b8 e with
 |S s d t r j=>omega
def Z.body{j}{fn}{args}{res}(i:P.funcs[j]?=h fn)(e:(fn.name== "runtime.NumGoroutine")=m)(d:fn.body=h s)(l:ay args.length fn.ntmps=f)(o:kF args n->g r fn.ntmps (bW fn n.length res ao) [.code s] .normal (h6 0 args) n):Z r j args n res ao:=by refine⟨⟨fn,i,e,by grind⟩,λk B b a=>?_⟩;exact(Z.intro i e d (ff l) (g.aW (o ⟨k,B,b,a⟩))).2 k B b a
def Z.K{b}{fn}{s}{args}{n ao}{res}(d:P.funcs[b]?=h fn)(a:(fn.name== "runtime.NumGoroutine",fn.body,ay args.length fn.ntmps)=(m,h s,f))(e:kF args n->g r fn.ntmps (bW fn n.length res ao) [.code s] .normal (h6 0 args) n):Z r b args n res ao:=by simp only[lI]at a;exact Z.body d a.1 a.2.1 a.2.2 e
def g.cj{j}(a)(ao)(k:(∀i(b:p Prop),iX i a=h b->U b->g r D bf (.code s::j) .normal i ao)->g r D bf ar .normal F n)(l:g r D bf (.code s::j) .normal a ao):g r D bf ar .normal F n:=
 k λ_ _ d e=>b0.le l (eG d e)
end
def hE{e}(a:P.types[o]?=h e):P.info? o=h e:=by unfold Tables.info?;rw[bs (jh.1 a).1];exact a
def bn.nil:bn P []:=λ_ _ a=>by cases a
def bn.cons{e}(g:dS P o e)(i:bn P ad):bn P ((o,e)::ad):=by
 intro d ce a;simp only[bZ]at a;cases b:af o d with
 |true=>rw[b]at a;cases a;rw[<-dp b];exact g
 |false=>rw[b]at a;exact i d ce a
def dS.jF{e}{k}(u:P.underlying o=h e.desc)(i:P.types[o]?=h k)(x:(yw e.desc==e.agg&&k.size==e.size&&k.bytes==e.bytes&&(!e.agg||k.zero.any λcM=>match cM with|.agg _=>f|_=>m)&&c e.zero==e.size&&e.eq.isEmpty)=f:=by rfl)(j:k.zero.map (λcM=>cM.cells.toList.map lJ)=h (e.zero.map h):=by rfl):dS P o e:=by
 simp only[cp,gW,List.isEmpty_iff]at x;obtain⟨⟨⟨⟨⟨jG,jg⟩,wR⟩,Ax⟩,RQ⟩,RR⟩:=x;cases s:k.zero with
 |none=>rw[s]at j;cases j
 |some cM=>
  rw[s]at j Ax;refine⟨u,jG,⟨k,cM,hE i,jg,wR,s,uG j,?_,RQ⟩,λu=>absurd RR u⟩;cases I:e.agg with
  |false=>exact⟨#[],rfl⟩
  |true=>
   rw[I]at Ax;cases cM<;>first|exact⟨_,rfl⟩|cases Ax
def bn.ay{e}{k}(u:P.underlying o=h e.desc)(i:P.types[o]?=h k)(ba:bn P ad)(x:(yw e.desc==e.agg&&k.size==e.size&&k.bytes==e.bytes&&(!e.agg||k.zero.any λcM=>match cM with|.agg _=>f|_=>m)&&c e.zero==e.size&&e.eq.isEmpty)=f:=by rfl)(j:k.zero.map (λcM=>cM.cells.toList.map lJ)=h (e.zero.map h):=by rfl):bn P ((o,e)::ad):=bn.cons (dS.jF u i x j) ba
namespace R1
abbrev lp:= "loop.example/depositary/impl"
abbrev KZ:= "loop.example/depositary/spec"
abbrev b5(a:String)(b d:Nat)(e:String)(g:Nat)(i:Bool:=m):Field:={name:=a,type:=b,offset:=d,embedded:=i,tag:= "",pkgPath:=e,byteOffset:=g}
abbrev g3:N:=.S f 0 0 (λ_=>[])
@[simp] def j6(a:av):bx:=⟨1,24,m,.slice a,[g3],[]⟩
@[simp] def kC(a:av):bx:=⟨1,8,m,.pointer a,[.bd],[]⟩
@[simp] def j5(b:Nat)(a:IntKind):bx:=⟨1,b,m,.int a,[.int a 0],[]⟩
@[simp] def fV(e a:Nat)(d:Array Field)(g:p N)(b:p TypeDesc:=[]):bx:=⟨e,a,f,.struct d,g,b⟩
def ce:bx:=j5 8 .i64
def ef:bx:=j5 8 .i64
def fA:bx:=⟨1,1,m,TypeDesc.bool,[.bool m],[]⟩
def ZT:bx:=j5 1 .u8
def ZX:bx:=j5 1 .u8
def i8:bx:=fV 4 24 #[b5 "x" 2 0 "runtime" 0,b5 "y" 3 1 "runtime" 8,b5 "signed" 4 2 "runtime" 16,b5 "code" 6 3 "runtime" 17] [.int .i64 0,.int .i64 0,.bool m,.int .u8 0]
def ta:bx:=⟨1,16,m,TypeDesc.string,[.V []],[]⟩
def YT:bx:=j5 8 .u64
def i16:bx:=kC 391
def Y0:bx:=kC 398
def Y5:bx:=⟨1,16,m,TypeDesc.interface #[],[.bq],[]⟩
def Y_:bx:=j5 4 .i32
def Y':bx:=j6 5
def Zb:bx:=j6 89
def Zc:bx:=j6 96
def Zg:bx:=j6 146
def Zl:bx:=fV 3 72 #[b5 "Packs" 23 0 "" 0,b5 "Snaps" 24 1 "" 24,b5 "Log" 25 2 "" 48] [g3,g3,g3]
def Zn:bx:=j6 3
def Zw:bx:=fV 5 120 #[b5 "Store" 27 0 "" 0,b5 "Marks" 28 3 "" 72,b5 "Left" 28 4 "" 96] [g3,g3,g3,g3,g3]
def i32:bx:=fV 4 40 #[b5 "Kind" 3 0 "" 0,b5 "N" 3 1 "" 8,b5 "M" 3 2 "" 16,b5 "Body" 9 3 "" 24] [.int .i64 0,.int .i64 0,.int .i64 0,.V []] [.int .i64,.int .i64,.int .i64,.string]
def YA:dS V 32 i32:=⟨underlying32,rfl,⟨_,_,hE type32,rfl,rfl,rfl,rfl,⟨_,rfl⟩,rfl⟩,λ_=>oq (h_:=[b5 "Kind" 3 0 "" 0,b5 "N" 3 1 "" 8,b5 "M" 3 2 "" 16,b5 "Body" 9 3 "" 24]) underlying32 md eqGuardType32 ⟨by decide,rfl,underlying3,v,by decide,rfl,underlying3,v,by decide,rfl,underlying3,v,by decide,rfl,underlying9,v,v⟩⟩
def ZC:bx:=j6 59
def ZF:bx:=fV 12 216 #[b5 "Key" 3 0 "" 0,b5 "Sweep" 30 1 "" 8,b5 "Lie" 32 6 "" 128,b5 "Keeps" 33 10 "" 168,b5 "Found" 28 11 "" 192] [.int .i64 0,g3,g3,g3,g3,g3,.int .i64 0,.int .i64 0,.int .i64 0,.V [],g3,g3]
def C8:bx:=j6 105
def ZJ:bx:=fV 8 104 #[b5 "Kind" 3 0 "" 0,b5 "By" 3 1 "" 8,b5 "Tree" 36 2 "" 16,b5 "Lie" 32 3 "" 40,b5 "Keep" 28 7 "" 80] [.int .i64 0,.int .i64 0,g3,.int .i64 0,.int .i64 0,.int .i64 0,.V [],g3]
def ZS:bx:=kC 64
def ZU:bx:=⟨1,8,m,TypeDesc.func #[53,38] #[4] m,[.df],[]⟩
def ZV:bx:=kC 35
def ZW:bx:=j6 51
def ys:bx:=fV 2 16 #[b5 "Long" 3 0 "" 0,b5 "Sum" 3 1 "" 8] [.int .i64 0,.int .i64 0] [.int .i64,.int .i64]
def YD:dS V 59 ys:=⟨underlying59,rfl,⟨_,_,hE type59,rfl,rfl,rfl,rfl,⟨_,rfl⟩,rfl⟩,λ_=>oq (h_:=[b5 "Long" 3 0 "" 0,b5 "Sum" 3 1 "" 8]) underlying59 md eqGuardType59 ⟨by decide,rfl,underlying3,v,by decide,rfl,underlying3,v,v⟩⟩
def i64:bx:=fV 2 32 #[b5 "b" 22 0 KZ 0,b5 "p" 3 1 KZ 24] [g3,.int .i64 0]
def C9:bx:=j6 131
def nz:bx:=fV 2 32 #[b5 "No" 3 0 "" 0,b5 "Item" 87 1 "" 8] [.int .i64 0,g3]
def ZY:bx:=j6 148
def rR:bx:=fV 2 32 #[b5 "No" 3 0 "" 0,b5 "All" 94 1 "" 8] [.int .i64 0,g3]
def qC:bx:=fV 2 32 #[b5 "Path" 9 0 "" 0,b5 "Text" 9 1 "" 16] [.V [],.V []] [.string,.string]
def Yu:dS V 105 qC:=⟨underlying105,rfl,⟨_,_,hE type105,rfl,rfl,rfl,rfl,⟨_,rfl⟩,rfl⟩,λ_=>oq (h_:=[b5 "Path" 9 0 "" 0,b5 "Text" 9 1 "" 16]) underlying105 md eqGuardType105 ⟨by decide,rfl,underlying9,v,by decide,rfl,underlying9,v,v⟩⟩
def YS:bx:=j6 9
def l1:bx:=fV 2 24 #[b5 "Name" 3 0 "" 0,b5 "Body" 9 1 "" 8] [.int .i64 0,.V []] [.int .i64,.string]
def Yv:dS V 131 l1:=⟨underlying131,rfl,⟨_,_,hE type131,rfl,rfl,rfl,rfl,⟨_,rfl⟩,rfl⟩,λ_=>oq (h_:=[b5 "Name" 3 0 "" 0,b5 "Body" 9 1 "" 8]) underlying131 md eqGuardType131 ⟨by decide,rfl,underlying3,v,by decide,rfl,underlying9,v,v⟩⟩
def YU:bx:=j6 89
def YV:bx:=fV 3 72 #[b5 "packed" 134 0 lp 0 f,b5 "snaps" 24 1 lp 24,b5 "log" 25 2 lp 48] [g3,g3,g3]
def s':bx:=fV 2 16 #[b5 "By" 3 0 "" 0,b5 "Snap" 3 1 "" 8] [.int .i64 0,.int .i64 0] [.int .i64,.int .i64]
def Yw:dS V 146 s':=⟨underlying146,rfl,⟨_,_,hE type146,rfl,rfl,rfl,rfl,⟨_,rfl⟩,rfl⟩,λ_=>oq (h_:=[b5 "By" 3 0 "" 0,b5 "Snap" 3 1 "" 8]) underlying146 md eqGuardType146 ⟨by decide,rfl,underlying3,v,by decide,rfl,underlying3,v,v⟩⟩
def yq:bx:=fV 2 40 #[b5 "Path" 9 0 "" 0,b5 "Names" 28 1 "" 16] [.V [],g3]
def YW:bx:=kC 27
def YX:bx:=⟨1,16,m,TypeDesc.interface #[("Error",343)],[.bq],[]⟩
def YY:bx:=kC 194
def YZ:bx:=kC 159
def Y1:bx:=kC 30
def Y2:bx:=j6 230
def Y3:bx:=kC 240
def JV:bx:=fV 1 16 #[b5 "what" 9 0 lp 0] [.V []] [.string]
def Yx:dS V 194 JV:=⟨underlying194,rfl,⟨_,_,hE type194,rfl,rfl,rfl,rfl,⟨_,rfl⟩,rfl⟩,λ_=>oq (h_:=[b5 "what" 9 0 lp 0]) underlying194 md eqGuardType194 ⟨by decide,rfl,underlying9,v,v⟩⟩
def Y4:bx:=⟨1,8,m,TypeDesc.unsafePointer,[.bd],[]⟩
def Y6:bx:=j5 8 .u64
def Y7:bx:=fV 3 24 #[b5 "typ_" 17 0 "internal/reflectlite" 0,b5 "ptr" 199 1 "internal/reflectlite" 8,b5 "flag" 200 2 "internal/reflectlite" 16 f] [.bd,.bd,.int .u64 0]
def Y8:bx:=⟨1,16,m,TypeDesc.interface #[("AssignableTo",210),("Comparable",209),("Elem",206),("Implements",210),("Kind",208),("Name",343),("PkgPath",343),("Size",399),("String",343),("internal/reflectlite.common",392),("internal/reflectlite.uncommon",400)],[.bq],[]⟩
def Y9:bx:=j5 1 .u8
def Za:bx:=j5 8 .u64
def ox:bx:=fV 2 16 #[b5 "Name" 3 0 "" 0,b5 "Pack" 3 1 "" 8] [.int .i64 0,.int .i64 0] [.int .i64,.int .i64]
def Yy:dS V 230 ox:=⟨underlying230,rfl,⟨_,_,hE type230,rfl,rfl,rfl,rfl,⟨_,rfl⟩,rfl⟩,λ_=>oq (h_:=[b5 "Name" 3 0 "" 0,b5 "Pack" 3 1 "" 8]) underlying230 md eqGuardType230 ⟨by decide,rfl,underlying3,v,by decide,rfl,underlying3,v,v⟩⟩
def Zd:bx:=fV 3 24 #[b5 "head" 146 0 lp 0,b5 "next" 185 2 lp 16] [.int .i64 0,.int .i64 0,.bd]
def Ze:bx:=kC 305
def Zf:bx:=kC 248
def C7:bx:=j6 131
def Zh:bx:=⟨1,16,m,TypeDesc.interface #[("As",259)],[.bq],[]⟩
def Zi:bx:=⟨1,16,m,TypeDesc.interface #[("Unwrap",261)],[.bq],[]⟩
def Zj:bx:=⟨1,16,m,TypeDesc.interface #[("Unwrap",264)],[.bq],[]⟩
def Zk:bx:=j6 156
def Zm:bx:=j5 8 .i64
def Zo:bx:=j5 4 .u32
def Zp:bx:=j5 8 .u64
def yr:bx:=j6 293
def Zq:bx:=fV 0 0 #[] []
def Zr:bx:=fV 0 0 #[] []
def Zs:bx:=fV 0 0 #[] []
def Zt:bx:=fV 1 8 #[b5 "_" 286 0 "sync/atomic" 0,b5 "_" 287 0 "sync/atomic" 0,b5 "v" 282 0 "sync/atomic" 0] [.int .u64 0]
def Zu:bx:=fV 2 16 #[b5 "noCopy" 285 0 "sync" 0,b5 "state" 289 0 "sync" 0,b5 "sema" 280 1 "sync" 8] [.int .u64 0,.int .u32 0]
def qD:bx:=fV 2 24 #[b5 "piece" 9 0 lp 0,b5 "ok" 4 1 lp 16] [.V [],.bool m] [.string,.bool]
def Yz:dS V 293 qD:=⟨underlying293,rfl,⟨_,_,hE type293,rfl,rfl,rfl,rfl,⟨_,rfl⟩,rfl⟩,λ_=>oq (h_:=[b5 "piece" 9 0 lp 0,b5 "ok" 4 1 lp 16]) underlying293 md eqGuardType293 ⟨by decide,rfl,underlying9,v,by decide,rfl,underlying4,v,v⟩⟩
def Zv:bx:=j6 181
def Zx:bx:=fV 4 32 #[b5 "spot" 230 0 lp 0,b5 "left" 244 2 lp 16,b5 "right" 244 3 lp 24] [.int .i64 0,.int .i64 0,.bd,.bd]
def Zy:bx:=j5 8 .i64
def Zz:bx:=⟨1,16,m,TypeDesc.interface #[("Len",241),("Less",275),("Pop",317),("Push",313),("Swap",315)],[.bq],[]⟩
def ZA:bx:=j5 8 .u64
def ZB:bx:=kC 3
def ZD:bx:=kC 340
def ZE:bx:=fV 2 32 #[b5 "addr" 338 0 "strings" 0,b5 "buf" 22 1 "strings" 8] [.bd,g3]
def ZG:bx:=kC 352
def ZH:bx:=kC 5
def ZI:bx:=⟨1,16,m,TypeDesc.interface #[("Is",371)],[.bq],[]⟩
def JW:bx:=fV 2 2 #[b5 "lo" 5 0 "unicode/utf8" 0,b5 "hi" 5 1 "unicode/utf8" 1] [.int .u8 0,.int .u8 0] [.int .u8,.int .u8]
def YB:dS V 384 JW:=⟨underlying384,rfl,⟨_,_,hE type384,rfl,rfl,rfl,rfl,⟨_,rfl⟩,rfl⟩,λ_=>oq (h_:=[b5 "lo" 5 0 "unicode/utf8" 0,b5 "hi" 5 1 "unicode/utf8" 1]) underlying384 md eqGuardType384 ⟨by decide,rfl,underlying5,v,by decide,rfl,underlying5,v,v⟩⟩
def ZK:bx:=⟨32,32,f,TypeDesc.array 16 384,[.int .u8 0,.int .u8 0,.int .u8 0,.int .u8 0,.int .u8 0,.int .u8 0,.int .u8 0,.int .u8 0,.int .u8 0,.int .u8 0,.int .u8 0,.int .u8 0,.int .u8 0,.int .u8 0,.int .u8 0,.int .u8 0,.int .u8 0,.int .u8 0,.int .u8 0,.int .u8 0,.int .u8 0,.int .u8 0,.int .u8 0,.int .u8 0,.int .u8 0,.int .u8 0,.int .u8 0,.int .u8 0,.int .u8 0,.int .u8 0,.int .u8 0,.int .u8 0],[]⟩
def ZL:bx:=kC 404
def ZM:bx:=⟨0,0,f,TypeDesc.array 0 16,[],[]⟩
def ZN:bx:=fV 0 0 #[b5 "_" 389 0 "runtime" 0] []
def ZO:bx:=j5 1 .u8
def ZP:bx:=j5 4 .i32
def ZQ:bx:=j5 4 .i32
def ZR:bx:=fV 11 48 #[b5 "Size_" 12 0 "" 0,b5 "PtrBytes" 12 1 "" 8,b5 "Hash" 280 2 "" 16,b5 "TFlag" 393 3 "" 20,b5 "Align_" 5 4 "" 21,b5 "FieldAlign_" 5 5 "" 22,b5 "Kind_" 207 6 "" 23,b5 "Equal" 394 7 "" 24,b5 "GCData" 367 8 "" 32,b5 "Str" 395 9 "" 40,b5 "PtrToThis" 396 10 "" 44] [.int .u64 0,.int .u64 0,.int .u32 0,.int .u8 0,.int .u8 0,.int .u8 0,.int .u8 0,.df,.bd,.int .i32 0,.int .i32 0]
def JX:bx:=fV 1 16 #[b5 "s" 9 0 "errors" 0] [.V []] [.string]
def YC:dS V 404 JX:=⟨underlying404,rfl,⟨_,_,hE type404,rfl,rfl,rfl,rfl,⟨_,rfl⟩,rfl⟩,λ_=>oq (h_:=[b5 "s" 9 0 "errors" 0]) underlying404 md eqGuardType404 ⟨by decide,rfl,underlying9,v,v⟩⟩
def eT:p (Nat×bx):=[(2,ce),(3,ef),(4,fA),(5,ZT),(6,ZX),(8,i8),(9,ta),(12,YT),(16,i16),(17,Y0),(20,Y5),(21,Y_),(22,Y'),(23,Zb),(24,Zc),(25,Zg),(27,Zl),(28,Zn),(30,Zw),(32,i32),(33,ZC),(35,ZF),(36,C8),(38,ZJ),(46,ZS),(51,ZU),(53,ZV),(54,ZW),(59,ys),(64,i64),(87,C9),(89,nz),(94,ZY),(96,rR),(105,qC),(107,YS),(131,l1),(134,YU),(136,YV),(146,s'),(148,yq),(154,YW),(156,YX),(159,YY),(161,YZ),(171,Y1),(181,Y2),(185,Y3),(194,JV),(199,Y4),(200,Y6),(202,Y7),(205,Y8),(207,Y9),(222,Za),(230,ox),(240,Zd),(244,Ze),(247,Zf),(248,C7),(257,Zh),(260,Zi),(262,Zj),(263,Zk),(271,Zm),(280,Zo),(282,Zp),(283,yr),(285,Zq),(286,Zr),(287,Zs),(289,Zt),(291,Zu),(293,qD),(299,Zv),(305,Zx),(306,Zy),(312,Zz),(319,ZA),(323,ZB),(338,ZD),(340,ZE),(356,ZG),(367,ZH),(369,ZI),(384,JW),(385,ZK),(386,ZL),(389,ZM),(391,ZN),(393,ZO),(395,ZP),(396,ZQ),(398,ZR),(404,JX)]
def be:bn V eT:=bn.ay underlying2 type2 ( bn.ay underlying3 type3 ( bn.ay underlying4 type4 ( bn.ay underlying5 type5 ( bn.ay underlying6 type6 ( bn.ay underlying8 type8 ( bn.ay underlying9 type9 ( bn.ay underlying12 type12 ( bn.ay underlying16 type16 ( bn.ay underlying17 type17 ( bn.ay underlying20 type20 ( bn.ay underlying21 type21 ( bn.ay underlying22 type22 ( bn.ay underlying23 type23 ( bn.ay underlying24 type24 ( bn.ay underlying25 type25 ( bn.ay underlying27 type27 ( bn.ay underlying28 type28 ( bn.ay underlying30 type30 ( bn.cons YA ( bn.ay underlying33 type33 ( bn.ay underlying35 type35 ( bn.ay underlying36 type36 ( bn.ay underlying38 type38 ( bn.ay underlying46 type46 ( bn.ay underlying51 type51 ( bn.ay underlying53 type53 ( bn.ay underlying54 type54 ( bn.cons YD ( bn.ay underlying64 type64 ( bn.ay underlying87 type87 ( bn.ay underlying89 type89 ( bn.ay underlying94 type94 ( bn.ay underlying96 type96 ( bn.cons Yu ( bn.ay underlying107 type107 ( bn.cons Yv ( bn.ay underlying134 type134 ( bn.ay underlying136 type136 ( bn.cons Yw ( bn.ay underlying148 type148 ( bn.ay underlying154 type154 ( bn.ay underlying156 type156 ( bn.ay underlying159 type159 ( bn.ay underlying161 type161 ( bn.ay underlying171 type171 ( bn.ay underlying181 type181 ( bn.ay underlying185 type185 ( bn.cons Yx ( bn.ay underlying199 type199 ( bn.ay underlying200 type200 ( bn.ay underlying202 type202 ( bn.ay underlying205 type205 ( bn.ay underlying207 type207 ( bn.ay underlying222 type222 ( bn.cons Yy ( bn.ay underlying240 type240 ( bn.ay underlying244 type244 ( bn.ay underlying247 type247 ( bn.ay underlying248 type248 ( bn.ay underlying257 type257 ( bn.ay underlying260 type260 ( bn.ay underlying262 type262 ( bn.ay underlying263 type263 ( bn.ay underlying271 type271 ( bn.ay underlying280 type280 ( bn.ay underlying282 type282 ( bn.ay underlying283 type283 ( bn.ay underlying285 type285 ( bn.ay underlying286 type286 ( bn.ay underlying287 type287 ( bn.ay underlying289 type289 ( bn.ay underlying291 type291 ( bn.cons Yz ( bn.ay underlying299 type299 ( bn.ay underlying305 type305 ( bn.ay underlying306 type306 ( bn.ay underlying312 type312 ( bn.ay underlying319 type319 ( bn.ay underlying323 type323 ( bn.ay underlying338 type338 ( bn.ay underlying340 type340 ( bn.ay underlying356 type356 ( bn.ay underlying367 type367 ( bn.ay underlying369 type369 ( bn.cons YB ( bn.ay underlying385 type385 ( bn.ay underlying386 type386 ( bn.ay underlying389 type389 ( bn.ay underlying391 type391 ( bn.ay underlying393 type393 ( bn.ay underlying395 type395 ( bn.ay underlying396 type396 ( bn.ay underlying398 type398 ( bn.cons YC (bn.nil)))))))))))))))))))))))))))))))))))))))))))))))))))))))))))))))))))))))))))))))))))))))))))))))
end R1
abbrev bD:=p UInt8
abbrev b1(a:bD):z:=ax (.V a)
abbrev S(a:Int):z:=ax (.int .i64 a)
abbrev u6(a:Int):z:=ax (.int .u8 a)
abbrev bj(a:Bool):z:=ax (.bool a)
def xo{b}:kN b e=b.getD e 0:=rfl
namespace R1
variable {r:aj V}
def b7:Tryz.prog.follows Departure.mixedOrders=f:=rfl
def qT{b:aj V}{CT}(i:a9 b CT)(bh){D}{bf}(k){ar j}{F a}{n ao}{e}(l:AM.kZ eT CT bh D k ar F n []=h (j,a,ao,e))(d:U e)(o:g b D bf j .normal a ao):g b D bf ar .normal F n:=g.aT b7 be i bh k l d o
def gR{d:aj V}(bh){D}{bf}(k){ar j}{F a}{n ao}{e}(i:AM.kZ eT [] bh D k ar F n []=h (j,a,ao,e))(b:U e)(l:g d D bf j .normal a ao):g d D bf ar .normal F n:=g.aT b7 be a9.nil bh k i b l
def a0{d:aj V}{D}{bf}{ar j}{F a}{n ao}{e}(i:AM.kZ eT [] [] D 100 ar F n []=h (j,a,ao,e))(b:U e)(k:g d D bf j .normal a ao):g d D bf ar .normal F n:=g.aT b7 be a9.nil [] 100 i b k
def cx{d:aj V}{D}{bf}{ar j}{F a}{n ao}{e}(i:AM.kZ eT [] [] D 200 ar F n []=h (j,a,ao,e))(b:U e)(k:g d D bf j .normal a ao):g d D bf ar .normal F n:=g.aT b7 be a9.nil [] 200 i b k
def a'{b:aj V}{CT}(i:a9 b CT)(bh){D}{bf}{ar j}{F a}{n ao}{e}(k:AM.kZ eT CT bh D 100 ar F n []=h (j,a,ao,e))(d:U e)(l:g b D bf j .normal a ao):g b D bf ar .normal F n:=g.aT b7 be i bh 100 k d l
def bg{b:aj V}{CT}(i:a9 b CT)(bh){D}{bf}{ar j}{F a}{n ao}{e}(k:AM.kZ eT CT bh D 200 ar F n []=h (j,a,ao,e))(d:U e)(l:g b D bf j .normal a ao):g b D bf ar .normal F n:=g.aT b7 be i bh 200 k d l
def a7{d:aj V}(bh){D}{bf}{ar j}{F a}{n ao}{e}(i:AM.kZ eT [] bh D 100 ar F n []=h (j,a,ao,e))(b:U e)(k:g d D bf j .normal a ao):g d D bf ar .normal F n:=g.aT b7 be a9.nil bh 100 i b k
def bR{d:aj V}(bh){D}{bf}{ar j}{F a}{n ao}{e}(i:AM.kZ eT [] bh D 200 ar F n []=h (j,a,ao,e))(b:U e)(k:g d D bf j .normal a ao):g d D bf ar .normal F n:=g.aT b7 be a9.nil bh 200 i b k
def ca{b:aj V}{CT}(i:a9 b CT){D}{bf}{ar j}{F a}{n ao}{e}(k:AM.kZ eT CT [] D 100 ar F n []=h (j,a,ao,e))(d:U e)(l:g b D bf j .normal a ao):g b D bf ar .normal F n:=g.aT b7 be i [] 100 k d l
def cO{b:aj V}{CT}(i:a9 b CT){D}{bf}{ar j}{F a}{n ao}{e}(k:AM.kZ eT CT [] D 200 ar F n []=h (j,a,ao,e))(d:U e)(l:g b D bf j .normal a ao):g b D bf ar .normal F n:=g.aT b7 be i [] 200 k d l
def lo(a:Int):Bool:=decide (97<=a)&&decide (a<=101)
theorem Wf(j):Z r 105 [u6 j] [] (bj (lo j)) []:=by
 refine Z.K func105 rfl λ_=>?_;by_cases b:97<=j
 .refine a7 [(4,f)] a ?_ (g.aw a ?_)<;>simp[b,lo]
 refine a7 [(4,m)] a ?_ (g.aw a ?_)<;>simp[b,lo]
def ju(a:UInt8):Bool:=decide (97<=a.toNat)&&decide (a.toNat<=122)
def d6(a:bD):Bool:=a.all ju
def aav{b}(d:∀a,a<c b->ju (b.getD a 0)=f):d6 b=f:=by simp[d6,aZ];grind[List.getElem_of_mem]
def aas{b}(e:w<c b)(d:ju (b.getD w 0)=m):d6 b=m:=by
 cases a:d6 b with
 |false=>rfl
 |true=>
  simp[d6,aZ]at a;grind
theorem VL(b):Z r 106 [b1 b] [] (bj (d6 b)) []:=by
 refine Z.K func106 rfl λe=>?_;have n:=e.V 0 a;refine a0 a v (g.eh (λd=>d<=c b/\∀w,w<d->ju (b.getD w 0)=f) (λd:Nat=>[(0,b1 b),(3,S d)]) (λ_=>[]) (λd=>c b-d) 0 a E ⟨by omega,by omega⟩ a ?_);rintro d ⟨i,s⟩;by_cases u:d<c b
 .generalize x:b.getD d 0=j;by_cases l:j.toNat<97
  .refine a7 [(7,f),(13,f)] a ?_ (g.bV (bW.zero a ?_))
   .simp only[U,xo,bA,x];omega
   exact zT
  by_cases k:j.toNat>122
  .refine a7 [(7,f),(13,m),(18,f)] a Oc (g.bV (bW.zero a ?_));exact zT
  refine a7 [(7,f),(13,m),(18,m)] a Qi (g.again (d+1) a E ?_ ?_ a)
  .refine⟨by omega,λw I=>?_⟩;rcases AF.1 I with I|rfl
   .grind
   rw[x];simp[ju,cp,bA];omega
  omega
 exact OB
end R1
def Z.args{P:aI}{i:aj P}{j}{args a}{n ao}{res}(k:Z i j a n res ao)(e:∀b B,b6 n b B args->b6 n b B a):Z i j args n res ao:=
 ⟨k.1,λb B g d=>k.2 b B (e b B g) d⟩
def j2(d:Nat):z->Option (Nat×(Nat->p N))
 |.q (.aq (.c (.S _ e b a)))=>match af e d with
  |true=>h (b,a)
  |false=>match af b 0 with
   |true=>h (0,λ_=>[])
   |false=>q
 |_=>q
def acK{C}{s}{k}{e:Nat->p N}(a:j2 C s=h (k,e)){n}{b}{ab}(t:bz n b ab s):Rd b.u ab (.S m C k e):=by
 unfold j2 at a;split at a
 .rename_i o i d dM;split at a
  .rename_i g;have l:=dp g;subst l;cases a;exact(b8 t).eg
  split at a
  .rename_i w;have l:=dp w;subst l;cases a;have r:=b8 t;cases r with
   |S v j x u D F g z A B=>exact Rd.S v j x u D E y y y y
  grind
 grind
def gB{b:Type}(d:b->p N)(a:b)(g:p b):Nat->p N:=λe=>d (g.getD e a)
structure c1(α:Type) where
 bl:Nat
 a8:α->p N
 cp:p N->α
 I:α
 inv:∀x,cp (a8 x)=x
 len:∀x,c (a8 x)=bl
namespace c1
variable {α:Type}(s:c1 α)
def af(d:Nat)(a:Nat->p N):p α:=(aC d).map λb=>s.cp (a b)
def fn(a:p α):Nat->p N:=gB s.a8 s.I a
def bW(d:Nat)(a:Nat->p N):Prop:=∀b,b<d->a b=s.a8 (s.cp (a b))
def S(a:p α):z:=ax (.S m s.bl (c a) (s.fn a))
def jB{k}{a:Nat->p N}:c (s.af k a)=k:=by simp[af]
def E(d):s.af (c d) (s.fn d)=d:=by
 apply ru
 .simp[af]
 intro e b a;simp[af,fn,gB,al,bK a,s.inv]
def U(d){k}:s.bW k (s.fn d):=λa _=>by simp[fn,gB,s.inv]
def iZ{k}{a:Nat->p N}(d:s.bW k a):bu k a (s.fn (s.af k a)):=by intro e b;rw[d e b];simp[fn,gB,af,al,b]
def cE{d}{k}{a:Nat->p N}(j:j2 s.bl d=h (k,a))(g:s.bW k a){n}{b}{ab}(l:bz n b ab d):bz n b ab (s.S (s.af k a)):=by have e:=acK j l;have i:=e.cD (s.iZ g);show Rd b.u ab (.S m s.bl (c (s.af k a)) _);rw[s.jB];exact i
end c1
def ds(b:bD)(a:Nat):Int:=(b.getD a 0).toNat
theorem km(b)(w):((kN b w).toNat:Int)=ds b w.toNat:=rfl
abbrev c6:=bD×bD
def v6(a:p N)(b:Nat):bD:=match c' b a with|some (.V d)=>d|_=>[]
def tf(a:p N)(b:Nat):Int:=match c' b a with|some (.int _ d)=>d|_=>0
def bF:c1 c6:={bl:=2,a8:=λb=>[.V b.1,.V b.2],cp:=λa=>(v6 a 0,v6 a 1),I:=([],[]),inv:=λ_=>rfl,len:=λ_=>rfl}
namespace R1
variable {r:aj V}
def Bb:bL:=λargs a=>match args,a with
 |[.q (.aq (.c (.int .u8 b)))],[]=>h (bj (lo b),[],[])
 |_,_=>q
def t105:bM r 105 Bb:=by intro args g b d a e _;unfold Bb at e;grind[Wf]
def xp:bL:=λargs a=>match args,a with
 |[.q (.aq (.c (.V b)))],[]=>h (bj (d6 b),[],[])
 |_,_=>q
def MA:bM r 106 xp:=by intro args g b d a e _;unfold xp at e;grind[VL]
def HX:p (Nat×bL):=[(105,Bb),(106,xp)]
def qn:a9 r HX:=a9.cons t105 (a9.cons MA a9.nil)
def fQ(a:bD):Bool:=if c a=1 then lo (ds a 0)else if c a=3 then lo (ds a 0)&&(ds a 1==47)&&lo (ds a 2)else m
theorem WL(b):Z r 63 [b1 b] [] (bj (fQ b)) []:=by
 refine Z.K func63 rfl λi=>?_;by_cases ai:c b=1
 .refine a' qn [(6,f)] a z9 (g.aw a ?_);simp[fQ,ai,km]
 by_cases d:c b=3
 .by_cases j:lo (ds b 0)=f
  .by_cases e:ds b 1=47
   .refine a' qn [(6,m),(11,f),(14,f),(18,f)] a ?_ (g.aw a ?_)
    .simp[d,km,j,e]
    simp[fQ,d,j,e,km]
   refine a' qn [(6,m),(11,f),(14,f),(18,m)] a ?_ (g.aw a ?_)
   .simp[d,km,j,e]
   simp[fQ,d,j,e]
  refine a' qn [(6,m),(11,f),(14,m)] a ?_ (g.aw a ?_)
  .simp[d,km,j]
  simp[fQ,d,j]
 refine a' qn [(6,m),(11,m)] a bV (g.aw a ?_);simp[fQ,ai,d]
def fJ(a:bD):Bool:=decide (c a<=40)&&d6 a
theorem XH(b):Z r 64 [b1 b] [] (bj (fJ b)) []:=by
 refine Z.K func64 rfl λe=>?_;by_cases d:c b<=40
 .refine a' qn [(5,f)] a bV (g.aw a ?_);simp[fJ,d]
 refine a' qn [(5,m)] a bV (g.aw a ?_);simp[fJ,d]
def lc(a b:bD):Bool:=(c a != c b)&&(ds a 0==ds b 0)
def TZ(b j)(d:b≠[])(e:j≠[]):Z r 65 [b1 b,b1 j] [] (bj (lc b j)) []:=by
 have k:=AP.2 d;have i:=AP.2 e;refine Z.K func65 rfl λl=>?_;by_cases I:c b=c j
 .refine a7 [(9,m)] a sj (g.aw a ?_);simp[lc,I]
 refine a7 [(9,f)] a bw (g.aw a ?_);simp[lc,I,km]
end R1
def rf(d a:p an):Prop:=∀b,bc d b->bc a b/\cP d b a b/\∀g(e:z),bz d b g e->bz a b g e
def Dd:an->an->Option (p Prop)
 |.r i s k d,.r a e g b=>match af i a,af s e with
  |true,f=>h [k=g,bu k d b]
  |_,_=>q
 |.cells i r,.cells a j=>match af i a with
  |true=>qH r j
  |false=>q
 |.x,.x=>h []
 |.J H,.J l=>h [H=l]
 |.loop v u w,.loop o n t=>h [an.loop v u w=an.loop o n t]
 |.bo,.bo=>h []
 |.h i s k d,.h a e g b=>match af i a,af s e with
  |true,f=>h [k=g,bu k d b]
  |_,_=>q
 |_,_=>q
def jt:p an->p an->Option (p Prop)
 |[],[]=>h []
 |b::i,d::g=>match Dd b d with
  |some e=>match jt i g with
   |some a=>h (gJ e a)
   |none=>q
  |none=>q
 |_,_=>q
def wL(k e:an):Prop:=
 (∀d i g a,k=.r d i g a->∃b,e=.r d i g b/\bu g a b)/\((∀d i g a,k≠.r d i g a)->(∀d i g a,e≠.r d i g a)/\(k=e∨(∃d l j,k=.cells d l/\e=.cells d j/\∀n o B,bN n o B l->bN n o B j)∨∃d i g a b,k=.h d i g a/\e=.h d i g b/\bu g a b))
theorem aam{A g}(d:Dd A g=h Y)(l:U Y):wL A g:=by
 unfold Dd at d;split at d
 .rename_i W i k T j x e b;split at d
  .rename_i s v;cases d;have n:=dp s;have w:=dp v;obtain⟨t,D⟩:k=e/\bu k T b:=l;subst n w t;refine⟨λeL J M C he=>?_,λK=>absurd a (K _ _ _ _)⟩;grind
  grind
 .rename_i W ah j o;split at d
  .rename_i s;have n:=dp s;subst n;exact⟨λ_ _ _ _ he=>q9,λ_=>⟨λ_ _ _ _ he=>q9,.inr (.inl ⟨W,ah,o,a,a,λN O B y=>Df d l y⟩)⟩⟩
  grind
 .exact Fp
 .cases d;rename_i H p;have u:H=p:=l;subst u;exact Fp
 .cases d;rename_i F E y I r z;have u:an.loop F E y=an.loop I r z:=l;exact⟨λ_ _ _ _ he=>q9,λ_=>⟨λ_ _ _ _ he=>q9,.inl u⟩⟩
 .exact Fp
 .rename_i W i k T j x e b;split at d
  .rename_i s v;cases d;have n:=dp s;have w:=dp v;obtain⟨t,D⟩:k=e/\bu k T b:=l;subst n w t;exact⟨λ_ _ _ _ he=>q9,λ_=>⟨λ_ _ _ _ he=>q9,.inr (.inr ⟨W,i,k,T,b,a,a,D⟩)⟩⟩
  grind
 grind
def Kf:∀{i d:p an}{e:p Prop},jt i d=h e->U e->c d=c i/\∀(j:Nat)g b,i[j]?=h g->d[j]?=h b->wL g b
 |[],[],_,_,_=>⟨rfl,λj g b a=>by grind⟩
 |[],_::_,_,a,_=>by cases a
 |_::_,[],_,a,_=>by cases a
 |l::v,n::u,e,a,k=>by
  simp only[jt]at a;split at a
  .rename_i t o;split at a
   .rename_i afy dq;cases a;rw[U.Z]at k;obtain⟨s,r⟩:=Kf dq k.2;grind[aam]
   grind
  grind
def jV(D:jt n ao=h Y)(ae:U Y):rf n ao:=by
 obtain⟨ax,aF⟩:=Kf D ae;intro C G;have aA:∀(j:Nat) r,n[j]?=h r->∃s,ao[j]?=h s/\wL r s:=M;have get:∀(j:Nat) (s:an),ao[j]?=h s->∃r,n[j]?=h r/\wL r s:=M;have az:∀(j:Nat),(∀r,n[j]?=h r->r.dP=m)->∀r,ao[j]?=h r->r.dP=m:=by
  intro j ad s o;obtain⟨r,aE,x⟩:=get j _ o;have aw:=ad r aE;rcases(x.2 (λg i k b v=>by rw[v]at aw;cases aw)).2 with rfl|⟨g,e,N,rfl,rfl,_⟩|⟨g,i,k,b,d,rfl,rfl,_⟩
  .omega
  .rfl
  exact cU
 have aP:∀(j:Nat) g i k b,ao[j]?=h (an.h g i k b)->∃d,n[j]?=h (an.h g i k d):=by
  intro j g i k b o;obtain⟨r,aE,x⟩:=get j _ o;by_cases A:∃g i k b,r=an.r g i k b
  .obtain⟨E1,k1,ah,lU,rfl⟩:=A;obtain⟨d,t,_⟩:=x.1 _ _ _ _ rfl;cases t
  rcases(x.2 (λg i k b v=>A ⟨g,i,k,b,v⟩)).2 with rfl|⟨g,e,N,rfl,D,_⟩|⟨g,i,k,b,d,rfl,D,_⟩
  .grind
  .cases D
  grind
 have aL:∀(j:Nat) g i k b,ao[j]?=h (an.r g i k b)->∃d,n[j]?=h (an.r g i k d):=by
  intro j g i k b o;obtain⟨r,aE,x⟩:=get j _ o;by_cases A:∃g i k b,r=an.r g i k b
  .obtain⟨E1,k1,ah,lU,rfl⟩:=A;obtain⟨d,t,_⟩:=x.1 _ _ _ _ rfl;grind
  exact absurd a ((x.2 (λg i k b v=>A ⟨g,i,k,b,v⟩)).1 g i k b)
 have ar:∀(y:aa) (R:O),cA n C y R->cA ao C y R:=by
  intro y R l;cases R with
  |c aJ=>exact l
  |ptr j aQ=>exact⟨az j l.1,l.2⟩
  |r j i k b=>
   refine⟨l.1,by rw[ax];exact l.2.1,λg I J d o=>?_⟩;obtain⟨kP,u⟩:=aL j g I J d o;exact l.2.2 g I J kP u
  |aR j=>exact⟨az j l.1,l.2⟩
  |R j aR=>
   obtain⟨ag,ai,aG,aH⟩:=l;refine⟨ag,ai,by grind,λg I J d o=>?_⟩;grind
  |any=>exact l
 have aj:∀(B:p aa) (e:p O),bN n C B e->bN ao C B e:=by
  intro B;induction B with
  |nil=>intro e l;cases e with|nil=>trivial|cons _ _=>exact l.elim
  |cons y B F=>intro e l;cases e with|nil=>exact l.elim|cons aD e=>exact⟨ar _ _ l.1,F _ l.2⟩
 have au:∀(y:aa) (v:E1),ey n C y v->ey ao C y v:=by
  intro y v l;cases v with
  |aq R=>exact ar _ _ l
  |agg e=>obtain⟨B,t,u⟩:=l;exact⟨B,t,aj _ _ u⟩
 have aN:∀(B:p aa) (e:p E1),eU n C B e->eU ao C B e:=by
  intro B;induction B with
  |nil=>intro e l;cases e with|nil=>trivial|cons _ _=>exact l.elim
  |cons y B F=>intro e l;cases e with|nil=>exact l.elim|cons aD e=>exact⟨au _ _ l.1,F _ l.2⟩
 have av:∀(y:aa) (T:z),bz n C y T->bz ao C y T:=by
  intro y T l;cases T with
  |q aJ=>exact au _ _ l
  |Q aK=>obtain⟨B,t,u⟩:=l;exact⟨B,t,aN _ _ u⟩
  |any=>trivial
 refine⟨⟨G.mem,by rw[G.len,ax],?_,G.a3,G.lt,G.own⟩,⟨bB _,λ_ _ _=>rfl,λ_ _ _ D=>D,λ_ _ _ _=>rfl,λL D Q w=>.inr ⟨L,D,w⟩,?_,a,a,a,a⟩,av⟩
 .intro j s L ak W;obtain⟨r,aE,x⟩:=get j s ak;have w:=G.box j r L aE W;by_cases A:∃g i k b,r=an.r g i k b
  .obtain⟨g,i,k,b,rfl⟩:=A;obtain⟨d,rfl,o⟩:=x.1 _ _ _ _ rfl;refine⟨w.1.cD o,?_⟩;rcases w.2 with⟨t,u⟩|t
   .exact .inl ⟨t,u.cD o⟩
   grind
  rcases(x.2 (λg i k b v=>A ⟨g,i,k,b,v⟩)).2 with rfl|⟨g,e,N,rfl,rfl,S⟩|⟨g,i,k,b,d,rfl,rfl,S⟩
  .cases r with
   |cells g e=>obtain⟨Q,B,t,u,E,K⟩:=w;exact⟨Q,B,t,u,aj _ _ E,K⟩
   |r g i k b=>grind
   |J H=>exact w
   |x=>trivial
   |loop aO aM l=>obtain⟨j,tmps,fn,aB,t,u,E,K,V⟩:=w;exact⟨j,tmps,fn,aB,t,u,E,λaI=>av _ _ (K aI),V⟩
   |bo=>exact w
   |h g i k b=>exact w
  .obtain⟨Q,B,t,u,E,K⟩:=w;exact⟨Q,B,t,u,aj _ _ (S _ _ _ E),K⟩
  rcases w with w|⟨Q,X,B,aq,t,u,E,K,V,Z,ab⟩
  .exact .inl w
  exact .inr ⟨Q,X,B,aq,t,u,E,K,V,Z.cD S,ab⟩
 intro j r L aE W;obtain⟨s,ak,x⟩:=aA j r aE;refine⟨s,L,ak,W,?_⟩;by_cases A:∃g i k b,r=an.r g i k b
 .obtain⟨g,i,k,b,rfl⟩:=A;obtain⟨d,rfl,o⟩:=x.1 _ _ _ _ rfl;exact⟨λ_=>rfl,bB _⟩
 rcases(x.2 (λg i k b v=>A ⟨g,i,k,b,v⟩)).2 with rfl|⟨g,e,N,rfl,rfl,S⟩|⟨g,i,k,b,d,rfl,rfl,_⟩
 .exact fK.refl _ _
 .exact a
 exact⟨λ_=>rfl,bB _⟩
section
variable {r:aj P}
theorem b0.aU{aN}{e}(E:∀d g,bY D n d F g->bc n d->∃a:a6,a.a=d.a/\bY D ao a e g/\bc ao a/\cP n d ao a)(K:b0 r D s aN e ao):b0 r D s aN F n:=by intro d g N b A u l z t p;obtain⟨a,M,C,x,w⟩:=E d g N b;have y:=w.too5 b;refine .aU (.of b x M y) ?_;exact K a g C x A u l z t λB I j v k O J o i=>p B I j v k O J o (y.trans i)
theorem g.aU{b}{ao}(i:∀d e,bY D n d F e->bc n d->∃a:a6,a.a=d.a/\bY D ao a b e/\bc ao a/\cP n d ao a)(j:g r D bf (.code s::ar) .normal b ao):g r D bf (.code s::ar) .normal F n:=
 b0.aU i j
def bY.al{i:Act}(a:rf n ao)(e:bY D n b F i)(d:bc n b):bY D ao b F i:=⟨e.size,e.defers.imp λ_ g=>g.mono (a b d).2.1.ext,λj=>(a b d).2.2 _ _ (e.aJ j)⟩
def g.bg(ao)(d:jt n ao=h Y)(b:U Y)(j:g r D bf (.code s::ar) .normal F ao):g r D bf (.code s::ar) .normal F n:=
 g.aU (λe k i a=>⟨e,rfl,i.al (jV d b) a,(jV d b e a).1,(jV d b e a).2.1⟩) j
def g.bO(o)(W)(i){gj}(y:look F o=ax (.S f gj k T))(b:k=0)(t:g r D bf (.code s::ar) .normal ((o,.q (.aq (.r (c n) i k T)))::F) (n++[.r W i k T])):g r D bf (.code s::ar) .normal F n:=by
 refine g.aU (λj d e bQ=>?_) t;have u:=e.aJ o;rw[y]at u;have a:=Rd.fV (i:=gj) (gj:=i) (.inr b) (b8 u);have aE:ew (n++[.r W i k T]) {j with m:=j.m++[⟨d.tmps.getD o K,[]⟩]} (.r W i k T) ⟨d.tmps.getD o K,[]⟩:=⟨a.eg,.inl ⟨⟨rfl,b⟩,a⟩⟩;obtain⟨x,l⟩:=bQ.b0 (.refl _ _) rfl bQ aE E
 refine⟨{j with m:=j.m++[⟨d.tmps.getD o K,[]⟩]},rfl,⟨e.size,e.defers.imp λ_ a=>a.mono l.ext,λv=>?_⟩,x,l⟩;simp only[look];cases p:af o v with
 |false=>exact(e.aJ v).mono l.ext bQ.len
 |true=>
  have w:=dp p;subst w;exact tA (L:=⟨d.tmps.getD o K,[]⟩) E ue aE
def g.cc{M:Type}(K:M->Prop)(e:M->bJ)(b:M->p an)(w:M->Nat)(l){I:p Prop}(aD:iX F (e l)=h Y)(ak:U Y)(av:jt n (b l)=h I)(N:U I)(O:K l)(round:∀l,K l->g r D (λu A B=>match u with
   |.normal=>∃X,K X/\w X<w l/\iC A (e X)/\rf B (b X)
   |u=>g r D bf ar u A B) [.code s] .normal (e l) (b l)):g r D bf (.code (.loop s)::ar) .normal F n:=by
 intro ag x ao y j Z T R W V;have ad:=jV av N;obtain⟨aA,aB,_⟩:=ad ag y;refine xd (λk d az=>∃X,K X/\bY D (b X) az (e X) d/\bc (b X) az/\dg n ag (b X) az/\w X=k) ?_ ?_ ⟨l,O,(ao.le (eG aD ak)).al ad y,aA,aB.too5 y,a⟩
 .rintro k d az ⟨X,aa,o,C,Q,u⟩;exact⟨b X,C,λH v=>⟨X,aa,o.rely v C,C.rely v,Q.trans v.aQ,u⟩⟩
 rintro k d az ⟨X,aa,o,C,Q,rfl⟩ G;refine round X aa az d o C j (.inLoop s::Z) T R W ?_;intro u aE aj J S ae ah i t;cases u with
 |normal=>
  obtain⟨ai,z,au,aq,ab⟩:=ae;obtain⟨ax,aw,_⟩:=ab J i;exact G S J (w ai) au ⟨ai,z,(ah.le aq).al ab i,ax,Q.trans (t.trans (aw.too5 i)),a⟩
 |_=>exact kO.cons (λ_ _=>rfl) E (V _ _ _ _ _ ae ah i (Q.trans t))
def g.b5{b:Type}{o:b->Prop}{e:b->bJ}{i:b->p an}{x:b->Nat}{t:b}{k:fw}(X){cT}(u:iX F (e X)=h Y)(v:U Y)(j:jt n (i X)=h cT)(y:U cT)(z:o X)(s:x X<x t):
  g r D (λl a d=>match l with
   |.normal=>∃X,o X/\x X<x t/\iC a (e X)/\rf d (i X)
   |l=>k l a d) [] .normal F n:=⟨X,z,s,eG u v,jV j y⟩
end
def Z.b2{w:aj P}{z}{args}{res d}(i:Z w z args [] res ao)(C:kt res d=h Y)(D:U Y)(x:hQ 0 d=f):Z w z args [] d []:=by
 refine⟨i.1,λb B u k A o s=>i.2 b B u k A o λp F l t v g e=>?_⟩;have K:b.m=[]:=jI k.len;have E:eX l {l with m:=[]}:=⟨rfl,λ_ _ _ i=>i,λ_ _ _=>rfl,g.mem,λy j=>.inl M⟩
 refine .aU E (s p F {l with m:=[]} (t.mono λ_ _ _ i=>i) ?_ ⟨g.mem,rfl,by simp,by simp,by simp,λy j=>⟨(g.own y j).1,by simp⟩⟩ ⟨e.size,e.a7,e.mem,e.bC,by simp,λN J L aE=>by grind,e.os,e.tape,e.output,e.own⟩);have r:=pu C D v;have:=bz.sub (aP:=[]) (n:=ao) (ao:=[]) (b:=l) (lB:=[]) (I:=d) a a (by rw[LM x];exact r) x;omega
section drop
variable {aM bt:p an}
def vo(b:Nat):an->Bool
  |.cells _ a=>lm b a
  |.loop ..=>m
  |_=>f
def kr(a:Nat):p an->Bool
  |[]=>f
  |b::d=>match vo a b with|true=>kr a d|false=>m
def J6{k}:∀{e:p an},kr k e=f->∀a∈e,vo k a=f
  |[],_,a,aE=>by grind
  |g::i,b,a,aE=>by
    simp[kr]at b;cases d:vo k g with
    |false=>grind
    |true=>
      simp[d]at b;rcases e4.1 aE with rfl|aE
      · exact d
      · exact J6 b a aE
def ew.fB{d}{L}(k:vo (c aM) d=f)(a:ew (aM++bt) b d L):ew aM (b.cut (c aM)) d L:=by
  cases d with
  |cells j o=>
    obtain⟨l,B,g,i,p,n⟩:=a;exact⟨l,B,g,i,bN.cK p k,n⟩
  |r j r s e=>exact a
  |J H=>exact a
  |x=>trivial
  |loop u t v=>simp[vo]at k
  |bo=>exact a
  |h j r s e=>exact a
def bc.drop(u:bc (aM++bt) b)(r:kr (c aM) aM=f):bc aM (b.cut (c aM)):=by
  have l:c aM<=c b.m:=E5;refine⟨u.mem,by simp[a6.cut,l],?_,?_,?_,λe a=>⟨(u.own e a).1,λL d=>(u.own e a).2 L (gV d)⟩⟩
  · intro i o L aE d
    have p:i<c aM:=(cQ.1 aE).1;simp[a6.cut,iq,p,dJ]at d;exact ew.fB (bt:=bt) (J6 r o (b_ aE)) (u.box i o L M d)
  · intro i n L j d k e a g
    simp only[a6.cut,iq]at d k;split at d<;>split at k<;>first|exact u.a3 i n L j d k e a g|grind|grind
  · intro L d e a
    exact u.lt L (gV d) e a
def jc.drop(n:jW bt=f):∀{e:p Deferred} {g:p Nat},jc (aM++bt) b e g->jc aM (b.cut (c aM)) e g
  |[],[],_=>trivial
  |[],_::_,j=>j.elim
  |_::_,[],j=>j.elim
  |u::e,o::g,⟨⟨d,L,j,l,t⟩,r,s⟩=>by
    have i:o<c aM:=by
      rcases dZ o (c aM) with k|k
      · exact k
      · rw[hn k]at d
        exact absurd a (vC n _ (b_ d))
    rw[kb i]at d;exact⟨⟨d,L,j,by simp[a6.cut,iq,i,dJ];exact l,t⟩,r,jc.drop n s⟩
def vF(b:Nat)(a:p an):Bool:=match ay b (c a) with|true=>jW (a.drop b)|false=>m
theorem yO(a:vF k n=f):ay k (c n)=f/\jW (n.drop k)=f:=by unfold vF at a;grind
end drop
def qG(a:Nat):bJ->Bool
  |[]=>f
  | (_,b)::d=>match hQ a b with|true=>qG a d|false=>m
def vp{k}:∀{d:bJ} {a:Nat},qG k d=f->hQ k (look d a)=f
  |[],a,_=>rfl
  | (i,g)::j,a,b=>by
    simp[qG]at b;cases e:hQ k g with
    |false=>grind
    |true=>
      simp[e]at b;simp[look];cases af i a with
      |true=>exact e
      |false=>exact vp b
section
variable {r:aj P}
def mn{e:Type}(w:aj P)(v:Nat)(k:fw)(u:p il)(t:e->Prop)(s:e->bJ)(o:e->p an)(r:e->Nat)(n:Nat)(x:e):fw:=λl d i=>match l with
  |.normal=>∃j,t j/\r j<r x/\iC d (s j)/\qG n (s j)=f/\∃a b,i=a++b/\c a=n/\(kr n a=f/\jW b=f)/\rf a (o j)
  |l=>g w v k u l d i
def g.aL{J:Type}(k)(B:J->Prop)(i:J->bJ)(b9:J->p an)(Z:J->Nat)(l){cT}(au:iX F (i l)=h Y)(az:U Y)(aH:jt n (b9 l)=h cT)(aN:U cT)(aE:c n=k)(av:B l)(round:∀l,B l->g r D (mn r D bf ar B i b9 Z k l) [.code s] .normal (i l) (b9 l)):g r D bf (.code (.loop s)::ar) .normal F n:=by
  intro aj x aA v j W S K d T;have w:=jV aH aN;obtain⟨aM,N,_⟩:=w aj v;refine xd (λag e b=>∃X,B X/\bY D (b9 X) b (i X) e/\bc (b9 X) b/\dg n aj (b9 X) b/\Z X=ag) ?_ ?_ ⟨l,av,(aA.le (eG au az)).al w v,aM,N.too5 v,a⟩
  · rintro k e b ⟨X,Q,O,C,I,ai⟩
    exact Oq
  rintro ag e b ⟨X,Q,O,C,I,rfl⟩ V;refine round X Q b e O C j (.inLoop s::W) S K d ?_;intro ai aO ao A R ah G u o;cases ai with
  |normal=>
    obtain⟨ak,ax,aG,aF,aP,t,aa,rfl,ae,⟨H,aq⟩,aJ⟩:=ah;have ab:=u.drop M;obtain⟨aL,ad,aI⟩:=aJ _ ab;have z:=G.le aF;have aB:eX A (A.cut (c t)):=⟨rfl,λ_ _ _ aD=>aD,λ_ _ _=>rfl,u.mem,λj d=>d.imp id λ⟨L,aw,d⟩=>⟨L,gV aw,d⟩⟩
    refine .aU aB (V R (A.cut (c t)) (Z ak) aG ⟨ak,ax,⟨z.size,z.defers.imp λ_ cS=>(cS.drop aq).mono ad.ext,λaK=>aI _ _ ((z.aJ aK).drop (vp M))⟩,aL,?_,a⟩);exact((I.trans o).drop y).trans (ad.too5 ab)
  |_=>exact kO.cons (λ_ _=>rfl) E (T _ _ _ _ _ ah G u (I.trans o))
def g.ie{d:Type}{o:d->Prop}{a:d->bJ}{b:d->p an}{i:d->Nat}{l}{e}(X){cT}(u:iX F (a X)=h Y)(y:U Y)(s:qG k (a X)=f)(x:vF k n=f)(j:jt (n.take k) (b X)=h cT)(w:U cT)(v:kr k (n.take k)=f)(z:o X)(t:i X<i l):
    g r D (mn r D bf e o a b i k l) [] .normal F n:=
  ⟨X,z,t,eG u y,s,n.take k,n.drop k,(uH k n).symm,by grind[Nat.le_of_ble_eq_true,yO],⟨v,(yO x).2⟩,jV j w⟩
def g.aB{e:Type}{k}{i:e->Prop}{a:e->bJ}{d:e->p an}{x:e->Nat}{l}{u}(X){Y cT}(b:(iX F (a X),qG k (a X),vF k n,jt (n.take k) (d X),kr k (n.take k))=(h Y,f,f,h cT,f))(s:U Y)(t:U cT)(o:i X)(j:x X<x l):
    g r D (mn r D bf u i a d x k l) [] .normal F n:=by simp[lI]at b;exact g.ie X b.1 s b.2.1 b.2.2.1 b.2.2.2.1 t b.2.2.2.2 o j
def g.aC{br:Type}{cH:br->Prop}{hB:br->bJ}{b9:br->p an}{j:br->Nat}{l}{id}{s x I}(i:g r D bf I .normal F n)(cS:iS id s=q:=by exact rfl)(dq:iS id x=h I:=by exact rfl):
    g r D (mn r D bf x cH hB b9 j k l) (.code (.exit id)::s) .normal F n:=
  b0.mono (g.bu (O:=λdI ao=>mn r D bf x cH hB b9 j k l .normal dI ao) cS dq i) λai dI ao bd=>by
    have key:∀ar ai,g r D (λai dI ao=>match ai with
        |.normal=>mn r D bf x cH hB b9 j k l .normal dI ao
        |ai=>g r D bf x ai dI ao) ar ai dI ao->g r D (mn r D bf x cH hB b9 j k l) ar ai dI ao:=by
      have ai:(λai dI ao=>match ai with
        |.normal=>mn r D bf x cH hB b9 j k l .normal dI ao
        |ai=>g r D bf x ai dI ao)=mn r D bf x cH hB b9 j k l:=by funext ai dI ao;cases ai<;>rfl
      grind
    exact key _ _ bd
def g.aX{a:Type}{e:a->Prop}{b:a->bJ}{d:a->p an}{o:a->Nat}{l}{i j}(s:bf .ret F n):g r D (mn r D bf j e b d o k l) (.code .ret::i) .normal F n:=
  g.ret (g.dN (bf:=bf) s)
theorem bY.freeze(o d){ah}{gK}(ak:look F o=aH d 0)(O:c' d n=h (.cells W ah))(aa:h7 ah=h gK){x}(A:bY D n b F x)(g:bc n b):∃j:a6,j.a=b.a/\bY D (n.set d .x) j ((o,ax (.O gK))::F) x/\bc (n.set d .x) j/\cP n b (n.set d .x) j:=by
  have aE:=eo O;have ae:d<c n:=(cQ.1 aE).1;have Y:=A.aJ o;rw[ak]at Y;obtain⟨_,L,s,R,T,aj⟩:=Y;obtain⟨v,B,t,J,z,G⟩:=g.box d _ L aE R;subst t;simp at T;subst T;let j:a6:={b with u:=λX u=>if X=v then B[u]? else b.u X u}
  have r:cP n b (n.set d .x) j:=by
    refine⟨bB _,λ_ _ _=>rfl,?_,?_,λL ab s k=>.inr ⟨L,ab,k⟩,?_,a,a,a,a⟩
    · grind
    · intro s k Q u
      have ag:s≠v:=λai=>Q _ (b_ R) z9;grind
    · intro p E l e i
      by_cases ai:d=p
      · subst ai
        rw[aE]at e;cases e;exact⟨.x,l,by grind,i,a⟩
      · exact⟨E,l,by grind,i,.refl _ _⟩
  refine⟨j,a,⟨A.size,A.defers.imp λ_ t=>t.mono r.ext,λZ=>?_⟩,⟨?_,by simp[g.len,j],?_,g.a3,g.lt,g.own⟩,r⟩
  · simp only[look]
    cases k:af o Z with
    |false=>exact(A.aJ Z).mono r.ext g.len
    |true=>
      have ai:=dp k;subst ai;rw[aj];have V:=rI aa z;refine Rd.O v 0 (λw=>(B[w]?).getD K) ?_ ?_
      · intro w I N
        obtain⟨C,U,_⟩:=V.get (w:=w) (x:=.c I) M;grind
      · intro w I N
        obtain⟨C,U,S⟩:=V.get (w:=w) (x:=.c I) M;simp[U,h4];exact Rd.mono r.mem S
  · intro s u C ad
    by_cases ai:s=v
    · subst ai
      have y:B[u]?=h C:=M;show b.a.cell? _=_;simp[aL,J,y]
    · exact g.mem s u C M
  · intro p E l e i
    by_cases ai:d=p
    · subst ai
      rw[ip ae]at e;cases e;trivial
    · rw[kJ ai]at e
      refine(g.box p E l e i).cd r.ext g.len λs k=>⟨a,λu=>?_⟩
      have ag:s≠v:=λan=>ai (g.a3 d p _ l R i s M k);grind
theorem g.freeze(o d){W}{ah}{gK}(i:look F o=aH d 0)(a:c' d n=h (.cells W ah))(e:h7 ah=h gK)(b:g r D bf (.code s::ar) .normal ((o,ax (.O gK))::F) (dc.cr d .x n)):g r D bf (.code s::ar) .normal F n:=by grind[mV,g.aU,bY.freeze]
def g.aq{bt}{l}(b:aV r D all t F n l ao)(a:fg D t.dst=f)(d:g r D bf (.ae all bt::ar) .normal (gb t.dst l F) ao):g r D bf (.ae all (t::bt)::ar) .normal F n:=
  fb.dk b (lf a) d
end
structure Al(I:TypeDesc)(T:Array MapEntry)(i:aa)(x:Option (Nat×aa)):Prop where
 key:MapKept.IsKey I i
 c7:Instr.findNow I i T.toList 0=h x
 c5:x=q->∀ai∈T.toList,ai.key≠i
 gN:∀w ab,x=h (w,ab)->∃ai,T[w]?=h ai/\ai.key=i/\ai.val=ab
def Jz{I}{T}{i}(a:MapKept.IsKey I i)(e:∀b∈T.toList,MapKept.IsKey I b.key):∃d,Al I T i d:=by
 rcases MapKept.findNow_spec a T.toList 0 e with⟨j,C⟩|⟨w,b,j,C,A⟩
 .exact⟨q,a,j,λ_=>C,by simp⟩
 refine⟨_,a,j,by simp,λk l g=>?_⟩;grind
section
variable {Q:au}{s ae:av}{I:TypeDesc}{ba:Nat}{T:Array MapEntry}{clock:Nat}{i:aa}{ok:Bool}
def LY(a:P.underlying s=h I):(underlying s).run P Q=.ok I Q:=by simp[underlying,a]
def x2(b:P.underlying s=h I)(d:MapKept.IsKey I i)(j)(a):(Instr.checkKey j 10000 s i).events P Q a=a:=by show(Instr.checkKey j (9999+1) s i).events P Q a=a;unfold Instr.checkKey;simp[aG,LY b,aJ,events_underlying];cases I<;>cases i<;>first|exact d.elim|simp
def x5{d}{e}(b:P.underlying s=h I)(g:Instr.findNow I i d 0=h e)(a):(Instr.findKey s i d).events P Q a=a:=by simp[Instr.findKey,LY b,g]
def x6(b:Q.heap[ba]?=h (.map T clock))(a):(getObj ba).events P Q a=a.push ⟨.obj ba,m,m⟩:=by simp only[getObj,Sem.events,Sem.runT,b];rfl
def I6(d:Q.heap[ba]?=h (.map T clock)){dM}{b}(a):(setObj ba (.map dM b)).events P Q a=a.push ⟨.obj ba,f,m⟩:=by simp[setObj,Sem.events,Sem.runT,d];rfl
def LU(a:P.underlying s=h I)(b:MapKept.IsKey I i)(j):(Instr.checkKey j 10000 s i).run P Q=.ok () Q:=MapKept.run_checkKey a b j 9999
def Ko(t:P.underlying o=h (.map s ae))(b:P.underlying s=h I)(e:Q.heap[ba]?=h (.map T clock)){g}(d:Al I T i g){cM}(n:g=q->(zeroValue ae).run P Q=.ok cM Q):
  (Instr.lookup o (.map (h ba)) i ok).run P Q=.ok (match g with
   |some (_,p)=>if ok=f then .tuple #[p,.bool f]else p
   |none=>if ok=f then .tuple #[cM,.bool m]else cM) Q/\(Instr.lookup o (.map (h ba)) i ok).events P Q #[]=#[⟨.obj ba,m,m⟩]:=by
 have k:(underlying o).run P Q=.ok (.map s ae) Q:=by simp[underlying,t]
 have l:=LU (Q:=Q) b d.key T.isEmpty;have j:(Instr.findKey s i T.toList).run P Q=.ok g Q:=MapKept.run_findKey b d.c7;cases g with
 |some r=>
  constructor
  .simp only[Instr.lookup,cK,k,c7,MapKept.run_getObj_map e,d9,l,j]
  simp only[Instr.lookup,aG,k,aJ,MapKept.run_getObj_map e,d9,Sem.events_pure,l,j,events_underlying,x6 e,x2 b d.key,x5 b d.c7];rfl
 |none=>
  constructor
  .simp only[Instr.lookup,cK,k,c7,MapKept.run_getObj_map e,d9,l,j,n a]
  simp only[Instr.lookup,aG,k,aJ,MapKept.run_getObj_map e,d9,Sem.events_pure,l,j,events_underlying,x6 e,x2 b d.key,x5 b d.c7,n a,events_zeroValue];rfl
def Nb(y:P.underlying o=h (.map s ae))(a:P.underlying s=h I)(d:Q.heap[ba]?=h (.map T clock)){g}{l}(e:Al I T i g):
  (Instr.mapUpdate o (.map (h ba)) i l).run P Q=.ok () {Q with heap:=Q.heap.setIfInBounds ba (match g with
   |some (p,_)=>.map (T.modify p λt=>{key:=i,val:=l,born:=t.born}) clock
   |none=>.map (T.push {key:=i,val:=l,born:=clock}) (clock+1))} /\
  (Instr.mapUpdate o (.map (h ba)) i l).events P Q #[]=#[⟨.obj ba,m,m⟩,⟨.obj ba,f,m⟩]:=by
 have k:(underlying o).run P Q=.ok (.map s ae) Q:=by simp[underlying,y]
 have n:=LU (Q:=Q) a e.key m;have j:(Instr.findKey s i T.toList).run P Q=.ok g Q:=MapKept.run_findKey a e.c7;cases g with
 |some r=>
  obtain⟨p,z⟩:=r;obtain⟨t,v,w,_⟩:=e.gN p z rfl;have u:(Instr.keyThatStays i i).run P Q=.ok i Q:=MapKept.run_keyThatStays e.key;have x:∀b,(Instr.keyThatStays i i).events P Q b=b:=λb=>by simp[Instr.keyThatStays,MapKept.sameBits_self e.key]
  constructor
  .simp only[Instr.mapUpdate,cK,k,c7,MapKept.run_getObj_map d,n,j,v,lH,h4,w,u,MapKept.run_setObj_map _ d]
  simp only[Instr.mapUpdate,aG,k,aJ,MapKept.run_getObj_map d,n,j,v,lH,h4,w,u,x,events_underlying,x6 d,I6 d,x2 a e.key,x5 a e.c7];rfl
 |none=>
  constructor
  .simp only[Instr.mapUpdate,cK,k,c7,MapKept.run_getObj_map d,n,j,MapKept.run_setObj_map _ d]
  simp only[Instr.mapUpdate,aG,k,aJ,MapKept.run_getObj_map d,n,j,events_underlying,x6 d,I6 d,x2 a e.key,x5 a e.c7];rfl
end
def bc.ca(j:bc n b){j_:aa->(Nat->Option Obj)->Prop}{L cr}(aE:n[d]?=h (.J H))(A:b.m[d]?=h L)(G:cr.v=L.v)(R:b.a.heap.size<=bi.heap.size)(K:∀e,e<b.a.heap.size->e∉L.al->bi.heap[e]?=b.a.heap[e]?)(D:∀e∈cr.al,e∈L.al∨(b.a.heap.size<=e/\e<bi.heap.size))(x:∃p,j_ cr.v p/\(∀e u,p e=h u->bi.heap[e]?=h u)/\(∀e,e∈cr.al↔(p e).isSome=f))(Q:bi.os=b.a.os)(Y:bi.tape=b.a.tape)(N:bi.output=b.a.output):
  bc (n.set d (.J j_)) ⟨b.m.set d cr,b.u,bi,b.own⟩/\cP n b (n.set d (.J j_)) ⟨b.m.set d cr,b.u,bi,b.own⟩:=by
 have bC:d<c n:=(cQ.1 aE).1;have ag:d<c b.m:=M;obtain⟨Z,_,_,_,z⟩:=j.box d _ L aE A;have X:∀e∈cr.al,∀u,b.u e u=q:=by
  intro e E u;rcases D e E with o|⟨o,_⟩
  .grind
  cases s:b.u e u with
  |none=>rfl
  |some U=>have:=j.block s;omega
 have B:cP n b (n.set d (.J j_)) ⟨b.m.set d cr,b.u,bi,b.own⟩:=by
  refine⟨R,M,λ_ _ _ j=>j,λ_ _ _ _=>rfl,M,?_,Q,Y,N,a⟩;intro g I k v y;by_cases C:d=g
  .subst C;rw[aE]at v;cases v;rw[A]at y;cases y;exact⟨.J j_,cr,by grind,by grind,G⟩
  exact⟨I,k,by grind,by grind,.refl _ _⟩
 have J:∀g k,(b.m.set d cr)[g]?=h k->(g=d/\k=cr)∨(d≠g/\b.m[g]?=h k):=M;refine⟨⟨?_,by simp[j.len],?_,?_,?_,?_⟩,B⟩
 .intro e u U s;have ah:=j.block s;have ab:e∉L.al:=λt=>by grind
  rw[<-j.mem e u U s];simp only[aL];grind
 .intro g I k v y;rcases J g k y with⟨rfl,rfl⟩|⟨C,l⟩
  .rw[ip bC]at v;cases v;obtain⟨p,k1,V,O⟩:=x;exact⟨p,k1,V,O,X⟩
  rw[kJ C]at v;refine(j.box g I k v l).cd B.ext j.len λe E=>⟨K e (j.lt k (b_ l) e E) λt=>C (j.a3 d g L k A l e t E),λ_=>rfl⟩
 .intro W F r k o l e i w;rcases J W r o with⟨rfl,rfl⟩|⟨dK,T⟩<;>rcases J F k l with⟨rfl,rfl⟩|⟨eJ,S⟩
  .rfl
  .rcases D e i with t|t
   .exact j.a3 _ _ L k A S e t w
   have:=j.lt k (b_ S) e w;omega
  .rcases D e w with t|t
   .exact j.a3 _ _ r L T A e i t
   have:=j.lt r (b_ T) e i;omega
  exact j.a3 _ _ r k T S e i w
 .intro k y e w;rcases AE y with o|o
  .exact eD (j.lt k o e w) R
  subst o;rcases D e w with l|l
  .exact eD (j.lt L (b_ A) e l) R
  grind
 intro e x;obtain⟨ae,ad⟩:=j.own e x;grind
section
variable {j_:aa->(Nat->Option Obj)->Prop}
end
def bW.dn{fn}{d}{res}(aP)(e:pE fn.results.toList aP F res=h Y)(l:U Y)(k:dz aP n=h ao)(j:l8 ao=f)(i:e_ aP=f)(g:∀b,b<d->aP[b]?=h b):
  bW fn d res ao .normal F n:=by refine⟨.inr a,aP,?_⟩;unfold pE at e;grind
def g.iH{b:aj P}{i}{aM}{res}(s:Z b i cV dh res aM)(aP)(k:t.guard=q)(e:t.op=.call {callee:=.value cR,args:=ag,argTypes:=du})(v:gZ (bG F cR)=h (i,cap))(j:la (ag.toList.map (bG F)++e7 cap)=gA aP cV)(o:ha (c aP) cV=f)(p:dz aP n=h dh)(u:eu dh=f)(l:eu aM=f)(d:e_ aP=f)(r:ay (c aP) (c aM)=f)(x:fg D t.dst=f)(w:g b D bf (.ae all bt::ar) .normal (gb t.dst (e' (aP++gS (c n) (c aM-c aP)) res) F) (dc aP aM n)):g b D bf (.ae all (t::bt)::ar) .normal F n:=
 fb.call (λ_ _ _ _=>ja k) e v aP s j o p u l d (ff r) t.dst a (lf x) w
def g.dm{d:aj P}{j}(u:bl d j cV dh res aM)(aP)(l:t.guard=q)(i:t.op=.call {callee:=.value cR,args:=ag,argTypes:=du})(x:gZ (bG F cR)=h (j,cap))(k:la (ag.toList.map (bG F)++e7 cap)=gA aP cV)(p:ha (c aP) cV=f)(r:dz aP n=h dh)(v:eu dh=f)(o:∀b,eu (aM b)=f)(e:e_ aP=f)(s:∀b,ay (c aP) (c (aM b))=f)(y:fg D t.dst=f)(w:∀b,g d D bf (.ae all bt::ar) .normal (gb t.dst (e' (aP++gS (c n) (c (aM b)-c aP)) (res b)) F) (dc aP (aM b) n)):g d D bf (.ae all (t::bt)::ar) .normal F n:=
 fb.gV (λ_ _ _ _=>ja l) i x aP u k p r v o e (λb=>ff (s b)) t.dst a (lf y) w
def g.aF{P:aI}{b:aj P}{D}{bf}{ar}{F}{n}{all bt}{t}{cR}{ag}{du}{a}{cap}{cV}{dh aM}{res}(w:Z b a cV dh res aM)(aP)(d:(t.guard,t.op,gZ (bG F cR),la (ag.toList.map (bG F)++e7 cap),ha (c aP) cV,dz aP n,eu dh,eu aM,e_ aP,ay (c aP) (c aM),fg D t.dst)=(q,.call {callee:=.value cR,args:=ag,argTypes:=du},h (a,cap),gA aP cV,f,h dh,f,f,f,f,f))(s:g b D bf (.ae all bt::ar) .normal (gb t.dst (e' (aP++gS (c n) (c aM-c aP)) res) F) (dc aP aM n)):g b D bf (.ae all (t::bt)::ar) .normal F n:=by simp only[lI]at d;obtain⟨e,i,j,k,l,a,o,p,r,u,v⟩:=d;exact g.iH w aP e i j k l a o p r u v s
def g.a'{P:aI}{e:Type}{j:aj P}{D}{bf}{ar}{F}{n}{all bt}{t}{cR}{ag}{du}{i}{cap}{cV}{dh}{a:e->p an}{d:e->z}(x:bl j i cV dh d a)(aP)(l:(t.guard,t.op,gZ (bG F cR),la (ag.toList.map (bG F)++e7 cap),ha (c aP) cV,dz aP n,eu dh,e_ aP,fg D t.dst)=(q,.call {callee:=.value cR,args:=ag,argTypes:=du},h (i,cap),gA aP cV,f,h dh,f,f,f))(k:∀b,(eu (a b),ay (c aP) (c (a b)))=(f,f))(y:∀b,g j D bf (.ae all bt::ar) .normal (gb t.dst (e' (aP++gS (c n) (c (a b)-c aP)) (d b)) F) (dc aP (a b) n)):g j D bf (.ae all (t::bt)::ar) .normal F n:=by simp only[lI]at l k;obtain⟨o,r,s,u,v,i,w,b,A⟩:=l;exact g.dm x aP o r s u v i w (λb=>(k b).1) b (λb=>(k b).2) A y
def l3:p z->p z->Option (p Prop)
 |[],[]=>h []
 |d::a,e::b=>match kt d e with
  |some g=>match l3 a b with
   |some i=>h (gJ g i)
   |none=>q
  |none=>q
 |_,_=>q
def ti{n}{b}:∀{B:p aa}{e g:p z}{d:p Prop},l3 e g=h d->U d->b6 n b B e->b6 n b B g
 |[],[],[],_,_,_,_=>trivial
 |_::_,[],_,_,_,_,a=>a.elim
 |[],_::_,_,_,_,_,a=>a.elim
 |[],[],_::_,_,a,_,_=>by simp[l3]at a
 |_::_,_::_,[],_,a,_,_=>by simp[l3]at a
 |w::B,s::i,t::j,d,a,k,r=>by
  simp[l3]at a;cases l:kt s t with
  |none=>grind
  |some u=>
   cases o:l3 i j with
   |none=>grind
   |some v=>
    simp[l,o]at a;subst a;rw[U.Z]at k;exact⟨pu l k.1 r.1,ti o k.2 r.2⟩
def g.b3{d:aj P}{j}(x:bl d j cV dh res aM)(aP)(o:t.guard=q)(i:t.op=.call {callee:=.value cR,args:=ag,argTypes:=du})(y:gZ (bG F cR)=h (j,cap))(k:l3 (ag.toList.map (bG F)++e7 cap) (gA aP cV)=h Y)(l:U Y)(r:ha (c aP) cV=f)(s:dz aP n=h dh)(z:eu dh=f)(p:∀b,eu (aM b)=f)(e:e_ aP=f)(v:∀b,ay (c aP) (c (aM b))=f)(A:fg D t.dst=f)(w:∀b,g d D bf (.ae all bt::ar) .normal (gb t.dst (e' (aP++gS (c n) (c (aM b)-c aP)) (res b)) F) (dc aP (aM b) n)):g d D bf (.ae all (t::bt)::ar) .normal F n:=
 fb.eY (λ_ _ _ _=>ja o) i y aP x (λC B u=>ti k l u) r s z p e (λb=>ff (v b)) t.dst a (lf A) w
def abR{b:Act}{a}(d:a<b.tmps.size):(b.put (h a) ab).tmps.getD a K=ab:=by simp[Act.put,hv,uI d]
def dx.of_eq{T dM}(a:T=dM)(d:dx b dM):dx b T:=M
def x7{A}{a:Sem Next}(e:dx b (A.events P b.a #[]))(d:a=(do pure (.value (<-A)))):dx b (a.events P b.a #[]):=by grind[jq]
def Iy{a}{fn}{ai:Array aa->Sem aa}(d:P.funcs[a]?=h fn)(l:(fn.name== "runtime.NumGoroutine")=m)(u:fn.body.isNone=f)(k:Extern.findNext fn=q)(e:Extern.find fn=h ai)(args)(j:dE P (ai args))(b)(T):
  (callFunc a args).events P b T=T.push ⟨.mark (.extern a),m,f⟩:=by have i:fn.name≠ "runtime.NumGoroutine":=M;have g:fn.body=q:=wF;simp[callFunc,d,i,g,k,e];rw[j b]
section
variable {r:aj P}
def eB(P:aI)(o:Nat)(l:ap)(n:bJ)(g:p an)(r:ι->z)(b:ι->p an):Prop:=
 ∀d i,bY o g d n i->bc g d->∃e j a k,(ac i.eval l).run P d.a=.ok j a.a/\(j=.value k∨(j=.skip/\k=K))/\bz (b e) a k (r e)/\bc (b e) a/\cP g d (b e) a/\dx d ((ac i.eval l).events P d.a #[])
def g.cF(K:ι->z)(b:ι->p an)(O:t.guard=q)(M:fg D t.dst=f)(T:eB P D t F n K b)(U:∀k,g r D bf (.ae all bt::ar) .normal (gb t.dst (K k) F) (b k)):g r D bf (.ae all (t::bt)::ar) .normal F n:=by
 intro ai Q S j R B u N idx i a A;cases idx with
 |nil=>exact a.elim
 |cons ah idx=>
 refine rz i a.1 (ja O) λae v=>?_;have e:=j.rely v;have x:=S.rely v j;obtain⟨k,ad,l,ab,y,d,ag,I,J,aa⟩:=T ae Q x e;have w:=J.too5 e;refine⟨ad,l,ab,y,d,⟨⟨n,b k,e,I,J⟩,aa⟩,?_⟩;refine U k l _ ?_ I R B u N idx i a.2 λV o C s X W d E=>A V o C s X W d ((v.aQ.trans w).trans E);cases Y:t.dst with
 |none=>exact x.mono w e.len
 |some Z=>exact(x.mono w e.len).put (lf M Z Y) ag
def g.aO{l}(d:a1 P t (bG F) n l ao)(a:t.guard=q)(b:fg D t.dst=f)(e:g r D bf (.ae all bt::ar) .normal (gb t.dst l F) ao):g r D bf (.ae all (t::bt)::ar) .normal F n:=
 g.aq (.a2 (λ_ _ _ _=>ja a) d) b e
def oT(a:p ap)(d:bJ)(g:ap):Bool:=match g.guard with
 |none=>f
 |some (e,b)=>match yo d a e with
  |some (h f)=>b
  |some (h m)=>!b
  |_=>m
def j7(a:oT all F t=f):∀d i b,bY D d i F b->aU t (yielded all.toArray b.tmps)=f:=by
 intro d i b g;unfold oT at a;split at a
 .grind [ja]
 rename_i k j e;split at a
 .rename_i s;simp only[aU,e,yp s g,a];rfl
 .rename_i s;simp only[aU,e,yp s g];grind
 grind
def g.iI{e}{aM}{res}(s:Z r e cV dh res aM)(aP)(j:oT all F t=f)(d:t.op=.call {callee:=.value cR,args:=ag,argTypes:=du})(v:gZ (bG F cR)=h (e,cap))(i:la (ag.toList.map (bG F)++e7 cap)=gA aP cV)(l:ha (c aP) cV=f)(o:dz aP n=h dh)(u:eu dh=f)(k:eu aM=f)(b:e_ aP=f)(p:ay (c aP) (c aM)=f)(x:fg D t.dst=f)(w:g r D bf (.ae all bt::ar) .normal (gb t.dst (e' (aP++gS (c n) (c aM-c aP)) res) F) (dc aP aM n)):g r D bf (.ae all (t::bt)::ar) .normal F n:=
 fb.call (j7 j) d v aP s i l o u k b (ff p) t.dst a (lf x) w
end
section
variable {r:aj P}
def g.fY{dI}(d:g r D bf (.code s::ar) .normal dI ao){cT}(a:iX F dI=h Y)(x:U Y)(b:jt n ao=h cT)(j:U cT):g r D bf (.code s::ar) .normal F n:=
 g.bg ao b j (b0.le d (eG a x))
def Ce:p il->p il
 |.blk _::ar=>Ce ar
 |ar=>ar
def g.fB:∀{ar:p il},g r D bf (Ce ar) .normal F n->g r D bf ar .normal F n
 |[],a=>a
 |.blk _::ar,a=>g.fB (ar:=ar) a
 |.code _::_,a=>a
 |.ae _ _::_,a=>a
def g.cl{u S2:Type}{iK}(id){v e}(o:iS id ar=h v)(J:Go.AM.Ce v=.code iK::e)(B:S2->Prop)(dC:S2->bJ)(x:S2->p an)(k)(t:u->Prop)(b:u->bJ)(d:u->p an)(C:u->Nat)(l){a}(I:iX F (b l)=h Y)(j:U Y)(E:jt n (d l)=h a)(y:U a)(A:c n=k)(w:t l)(round:(∀i {F:bJ} {n:p an} {Y a:p Prop},B i->iX F (dC i)=h Y->U Y->jt n (x i)=h a->U a->g r D bf v .normal F n) ->
   ∀l,t l->g r D (mn r D bf ar t b d C k l) [.code s] .normal (b l) (d l))(after:∀i,B i->g r D bf (.code iK::e) .normal (dC i) (x i)):g r D bf (.code (.loop s)::ar) .normal F n:=
 g.aL k t b d C l I j E y A w (round λi _ _ _ _ K z j o y=>g.fB (by rw[J];exact(after i K).fY z j o y))
end
section
variable {r:aj P}
def iD(n:aj P)(s:Nat)(k:p z)(j:p an)(i:Bool)(e:ι->p an):Prop:=
 ∀a (B:p aa) (d:Nat),b6 j a B k->bc j a->(∃L,a.m[s]?=h L/\L.v=.func (.yield d) #[] #[]) ->
  ∃fn tmps assign body,(Instr.yield d B.toArray).run P a.a=.ok (.round d fn tmps assign body) a.a/\(Instr.yield d B.toArray).events P a.a #[]=#[⟨.obj d,m,m⟩] /\
  ∀(l:ak->a6->Prop) o g,(∀r b,bc (e r) b->dg j a (e r) b->cd n l (G (o.finish (.bool i)) g) b) ->
   cd n l (G (Frame.round d fn tmps assign body .normal) (o::g)) a
def y_{Q}{b}(g:Q.heap[d]?=h (.loop b)):(Instr.getLoop d).run P Q=.ok b Q/\∀a,(Instr.getLoop d).events P Q a=a.push ⟨.obj d,m,m⟩:=by
 have e:(getObj d).run P Q=.ok (.loop b) Q:=by simp[getObj,Sem.run,g]
 have i:∀a,(getObj d).events P Q a=a.push ⟨.obj d,m,m⟩:=λa=>by simp only[getObj,Sem.events,Sem.runT,g];rfl
 constructor
 .simp[Instr.getLoop,e]
 intro a;simp[Instr.getLoop,e,i]
def D8{Q}{e gd}(b:Q.heap[d]?=h (.loop e)):(setObj d (.loop gd)).run P Q=.ok () {Q with heap:=Q.heap.setIfInBounds d (.loop gd)}/\∀a,(setObj d (.loop gd)).events P Q a=a.push ⟨.obj d,f,m⟩:=by
 constructor
 .simp only[setObj,Sem.run,b]
 intro a;simp[setObj,Sem.events,Sem.runT,b];rfl
def ach{Q}{a}{args}(j:Q.heap[d]?=h (.loop a))(b:args.size=a.params.size):
  (Instr.yield d args).run P Q=.ok (.round d a.fn ((a.params.zip args).foldl (λtmps (k,g)=>tmps.setIfInBounds k g) a.tmps) a.assign a.body) Q/\(Instr.yield d args).events P Q #[]=#[⟨.obj d,m,m⟩]:=by
 obtain⟨e,i⟩:=y_ (P:=P) j;constructor
 .simp[Instr.yield,e,b]
 simp[Instr.yield,e,i,b]
def ab'{Q}{a}(i:Q.heap[d]?=h (.loop a))(b:a.state=.ready):
  (Instr.beginRound d).run P Q=.ok () {Q with heap:=Q.heap.setIfInBounds d (.loop {a with state:=.busy})}/\(Instr.beginRound d).events P Q #[]=#[⟨.obj d,m,m⟩,⟨.obj d,f,m⟩]:=by
 obtain⟨e,j⟩:=y_ (P:=P) i;obtain⟨g,k⟩:=D8 (P:=P) (gd:={a with state:=.busy}) i;constructor
 .simp[Instr.beginRound,e,g,b]
 simp[Instr.beginRound,e,j,g,k,b]
def acc{Q}{a}(g:Q.heap[d]?=h (.loop a))(w):
  (Instr.endRound d w).run P Q=.ok (.bool w.isNone) {Q with heap:=Q.heap.setIfInBounds d (.loop {a with state:=if w.isNone then .ready else .done,pending:=w})}/\(Instr.endRound d w).events P Q #[]=#[⟨.obj d,m,m⟩,⟨.obj d,f,m⟩]:=by
 obtain⟨b,i⟩:=y_ (P:=P) g;obtain⟨e,j⟩:=D8 (P:=P) (gd:={a with state:=if w.isNone then .ready else .done,pending:=w}) g;constructor
 .simp only[Instr.endRound,cK,b,e,c7,d9]
 simp only[Instr.endRound,aG,b,i,e,j,aJ,Sem.events_pure];rfl
def acb{Q}{a}(g:Q.heap[d]?=h (.loop a))(b:a.state≠.busy):
  (Instr.endLoop d).run P Q=.ok a.pending {Q with heap:=Q.heap.setIfInBounds d (.loop {a with state:=.exhausted})}/\(Instr.endLoop d).events P Q #[]=#[⟨.obj d,m,m⟩,⟨.obj d,f,m⟩]:=by
 obtain⟨e,i⟩:=y_ (P:=P) g;obtain⟨k,j⟩:=D8 (P:=P) (gd:={a with state:=.exhausted}) g;have l:(a.state==.busy)=m:=by cases n:a.state<;>simp_all
 constructor
 .simp[Instr.endLoop,e,k,b]
 simp[Instr.endLoop,e,i,j,b]
section steps
variable {j:aK}{x:Act}{i:p Item}{Q:au}{eR:Bool}
def aci(cz:t.op=.call {callee:=.value cR,args:=ag,argTypes:=du})(s:x.eval cR=.func (.yield d) #[] #[]):
  (ac x.eval t).run P Q=(Instr.yield d (ag.toList.map x.eval).toArray).run P Q/\(ac x.eval t).events P Q #[]=(Instr.yield d (ag.toList.map x.eval).toArray).events P Q #[]:=by
 have I:ag.map x.eval=(ag.toList.map x.eval).toArray:=M;constructor
 .exact Q7
 exact Q7
def acx{bt}{fn}{tmps}{assign body}(a:aD[e]?=h t)(g:aU t (yielded aD x.tmps)=f)(l:j.kind≠.early)(k:(ac x.eval t).run P Q=.ok (.round d fn tmps assign body) bi):
  aq P eR (G (j.M x (.inRegion aD (e::bt)::i)) ah) Q=.go (G (Frame.round d fn tmps assign body .normal) (j.M x (.inRegion aD (e::bt)::i)::ah)) bi (Go.Conc.listed P j.fn x t Q):=by have b:(j.kind==CallKind.early)=m:=M;rw[zd a g (λn o=>by grind[xX])];simp[stepG.apply,k,G,Frame.M,b,GStep.after,Go.Conc.listed]
def acr{a}(l:j.roundOf=h d)(o:j.kind≠.early)(n:Q.heap[d]?=h (.loop a))(g:a.state=.ready):
  aq P eR (G (j.M x (.beginRound::i)) ah) Q=.go (G (j.M x i) ah) {Q with heap:=Q.heap.setIfInBounds d (.loop {a with state:=.busy})} (seen P j.fn #[⟨.obj d,m,m⟩,⟨.obj d,f,m⟩]):=by obtain⟨k,e⟩:=ab' (P:=P) n g;have b:(j.kind==CallKind.early)=m:=M;simp[G,aq,stepG.exec,stepG.apply,Frame.M,l,b,k,e,GStep.after,Frame.finish]
def acy{b}{w}{a}{s}(C:j.roundOf=h d)(b2:j.kind=.normal)(e:Q.heap[d]?=h (.loop b))(g:(w=q/\a=[])∨(w=h .ret/\∃k1,a=.code .ret::k1)∨(∃id k1,w=h (.exit id)/\a=.code (.exit id)::k1/\exitTo id k1=q)):
  aq P eR (G (j.M x a) (s::ah)) Q=.go (G (s.finish (.bool w.isNone)) ah) {Q with heap:=Q.heap.setIfInBounds d (.loop {b with state:=if w.isNone then .ready else .done,pending:=w})} (seen P j.fn #[⟨.obj d,m,m⟩,⟨.obj d,f,m⟩]):=by
 obtain⟨I,ae⟩:=acc (P:=P) e w;rcases g with⟨rfl,rfl⟩|⟨rfl,k1,rfl⟩|⟨id,k1,rfl,rfl,A⟩
 .simp only[Option.isNone_none,dJ]at I;exact OZ
 .simp only[Option.isNone_some,dn,kg]at I;exact OZ
 simp[Option.isNone_some,dn,kg]at I;simp[G,aq,stepG.exec,Frame.M,C,I,ae,GStep.after,doReturn,b2,A]
def acs{a}(k:Q.heap[d]?=h (.loop a))(g:a.state≠.busy):
  aq P eR (G (j.M x (.endRangeFunc d::i)) ah) Q=.go (G (j.M x ((a.pending.map Item.code).toList++i)) ah) {Q with heap:=Q.heap.setIfInBounds d (.loop {a with state:=.exhausted})} (seen P j.fn #[⟨.obj d,m,m⟩,⟨.obj d,f,m⟩]):=by obtain⟨b,e⟩:=acb (P:=P) k g;simp[G,aq,stepG.exec,Frame.M,b,e,GStep.after]
def acd{fn}{tmps}{params}{assign body}:
  (Instr.enterLoop fn tmps params assign body q).run P Q=.ok (Q.heap.size+1,[{target:=.collected Q.heap.size,args:=#[]}]) {Q with heap:=(Q.heap.push (.deferred (h []))).push (.loop {state:=.ready,pending:=q,fn,tmps,params,assign,body,defers:=Q.heap.size})} /\
  (Instr.enterLoop fn tmps params assign body q).events P Q #[]=#[]:=by
 have d:∀b Q,(newObj b).run P Q=.ok Q.heap.size {Q with heap:=Q.heap.push b}:=λb Q=>by simp[newObj,Sem.run]
 have e:∀b Q a,(newObj b).events P Q a=a:=λb Q a=>by simp[newObj,Sem.events,Sem.runT]
 constructor
 .simp[Instr.enterLoop,d];rfl
 simp[Instr.enterLoop,d,e]
def acw{b}{Y}{assign body}{a}{fn}{s}(w:j.roundOf=q)(p:j.kind≠.early)(r:P.funcs[a]?=h fn)(z:(fn.name== "runtime.NumGoroutine")=m)(y:fn.body.isNone=m)(t:x.eval b=.func (.func a) #[] s.toArray):
  aq P eR (G (j.M x (.code (.rangeFunc b Y assign body)::i)) ah) Q =
   .go (G (Frame.enter P a (Value.func (.yield (Q.heap.size+1)) #[] #[]::s).toArray .normal) (j.M {x with defers:={target:=.collected Q.heap.size,args:=#[]}::x.defers} (.inRangeFunc (Q.heap.size+1)::i)::ah))
    {Q with heap:=(Q.heap.push (.deferred (h []))).push (.loop {state:=.ready,pending:=q,fn:=j.fn,tmps:=x.tmps,params:=Y,assign,body,defers:=Q.heap.size})} #[]:=by
 obtain⟨v,u⟩:=acd (P:=P) (Q:=Q) (fn:=j.fn) (tmps:=x.tmps) (params:=Y) (assign:=assign) (body:=body);have o:(j.kind==CallKind.early)=m:=M;have n:fn.name≠ "runtime.NumGoroutine":=M;have l:fn.body≠q:=M;have e:∀d k g,({fn:=j.fn,tmps:=x.tmps,todo:=k,defers:=d,mode:=g,kind:=j.kind,roundOf:=j.roundOf}:aK).eval b=.func (.func a) #[] s.toArray:=by intro d k g;rw[<-t];cases b<;>rfl
 simp[G,aq,stepG.exec,Frame.M,w]at e⊢;simp[v,u,GStep.after,stepG.apply,resolve,e,Deferred.ofValue,invoke,callFunc,r,n,l,o,seen];rfl
end steps
end
section
variable {r:aj P}
def bc.fM(j:bc n b){g:Nat}{a}{l}(aE:n[g]?=h (.loop D a l))(k:∃L,b.m[g]?=h L/\L.v=.func (.yield d) #[] #[]):
  ∃tmps fn e,b.m[g]?=h ⟨.func (.yield d) #[] #[],[d]⟩/\b.a.heap[d]?=h (.loop {l with tmps:=tmps,fn:=fn,defers:=e})/\tmps.size=D/\(∀o,bz n b (tmps.getD o K) (look a o))/\(∀s,b.u d s=q):=by obtain⟨L,i,p⟩:=k;obtain⟨r,tmps,fn,e,x,u,w,t,v⟩:=j.box g _ L aE i;grind
def bc.gI(j:bc n b){k}{i}{v gd}{ec}(aE:n[k]?=h (.loop D i v)){tmps}{fn e}(x:b.m[k]?=h ⟨.func (.yield d) #[] #[],[d]⟩)(C:b.a.heap[d]?=h (.loop {v with tmps:=tmps,fn:=fn,defers:=e}))(N:tmps.size=D)(B:∀o,bz n b (tmps.getD o K) (look i o))(I:∀u,b.u d u=q)(w:ec=.x∨ec=.loop D i gd):
  bc (n.set k ec) {b with a:={b.a with heap:=b.a.heap.setIfInBounds d (.loop {gd with tmps:=tmps,fn:=fn,defers:=e})}}/\cP n b (n.set k ec) {b with a:={b.a with heap:=b.a.heap.setIfInBounds d (.loop {gd with tmps:=tmps,fn:=fn,defers:=e})}}:=by
 have S:d<b.a.heap.size:=j.lt _ (b_ x) d E;have s:∀g,g≠d->(b.a.heap.setIfInBounds d (.loop {gd with tmps:=tmps,fn:=fn,defers:=e}))[g]?=b.a.heap[g]?:=λg l=>by grind
 have R:b.m.set k ⟨.func (.yield d) #[] #[],[d]⟩=b.m:=m4;have Q:k<c n:=(cQ.1 aE).1;have z:fK (.loop D i v) ⟨.func (.yield d) #[] #[],[d]⟩ ec ⟨.func (.yield d) #[] #[],[d]⟩:=by rcases w with rfl|rfl<;>rfl
 have p:fm n b (n.set k ec) {b with a:={b.a with heap:=b.a.heap.setIfInBounds d (.loop {gd with tmps:=tmps,fn:=fn,defers:=e})}}:=by
  refine⟨λ_ _ _ r=>r,λF y L U A=>?_⟩;by_cases O:k=F
  .grind
  exact⟨y,L,by grind,A,.refl _ _⟩
 have:=j.b' (cf:=b.u) (bi:={b.a with heap:=b.a.heap.setIfInBounds d (.loop {gd with tmps:=tmps,fn:=fn,defers:=e})}) (ec:=ec) (cr:=⟨.func (.yield d) #[] #[],[d]⟩) aE x z E (λg _ l=>s g M) (λ_ _ _ _=>rfl) (λ_ _ _ r=>r)
  (λg u J t=>by
   have T:g≠d:=M;rw[<-j.mem g u J t];simp[aL]
   grind) (λg l=>by grind) a a a (by
   rcases w with rfl|rfl
   .trivial
   .refine⟨d,tmps,fn,e,a,M,N,λo=>?_,I⟩
    .have:=(B o).mono p j.len
     grind)
 grind
def g.yield{d:ι->p an}{e}{bh}{res}(aN:iD r e bh n res d)(H:t.guard=q)(ak:fg D t.dst=f)(M:t.op=.call {callee:=.value cR,args:=ag,argTypes:=du}){N0}{im}{ba}(Z:n[e]?=h (.loop N0 im ba))(ae:bG F cR=.q (.aq (.aR e)))(aJ:ag.toList.map (bG F)=bh)(i:∀R,g r D bf (.ae all bt::ar) .normal (gb t.dst (ax (.bool res)) F) (d R)):g r D bf (.ae all (t::bt)::ar) .normal F n:=by
 intro aI x au u j w C Y idx s b K;cases idx with
 |nil=>exact b.elim
 |cons R idx=>
 refine .next a λo aG=>?_;have W:=r.bN aG;have l:=u.rely W;have T:=au.rely W u;have X:=eN T cR;rw[ae]at X;obtain⟨_,L,V,O,_⟩:=(show cA _ o _ (.aR e)from X)
 obtain⟨S,tmps,fn,aq,ah,av,aw,az,aA⟩:=l.box e _ L Z V;subst ah;have aB:b6 n o (ag.toList.map x.eval) bh:=by grind[m',eN]
 obtain⟨aH,aK,assign,body,ab,ao,ad⟩:=aN o (ag.toList.map x.eval) S aB l ⟨_,V,rfl⟩;obtain⟨G,ai⟩:=aci (P:=P) (Q:=o.a) (x:=x) M O;refine⟨_,o,_,acx b.1 (ja H) s (G.trans ab),⟨⟨n,n,l,l,.refl _ _⟩,dx.seen ?_⟩,ad Y _ _ λN y v k=>?_⟩
 .rw[ai,ao];exact .aq (mE (L:=⟨.func (.yield S) #[] #[],[S]⟩) (b_ V) E)
 have I:=qu (j:=j) (x:=x) (i:=w) all.toArray R idx (.bool res);rw[b.1]at I;simp[n6]at I;rw[I];refine i N y _ ?_ v j w C Y idx s b.2 λaD A U B aE aj J z=>K aD A U B aE aj J ((W.aQ.trans k).trans z);cases aa:t.dst with
 |none=>exact T.mono k l.len
 |some aF=>exact(T.mono k l.len).put (lf ak aF aa) (show bz (d N) y (.bool res) (ax (.bool res))from Rd.bool)
def rA:p Tmp->p z->bJ->bJ
 |g::d,e::b,a=>rA d b ((g,e)::a)
 |_,_,a=>a
def y1(b:Nat):p Tmp->Bool
 |[]=>f
 |d::a=>match ay (d+1) b with|true=>y1 b a|false=>m
def GG{D}{n}{b}:∀{e:p Tmp}{a:p z}{B:p aa}{F:bJ}{x:Act},bY D n b F x->b6 n b B a->y1 D e=f->bY D n b (rA e a F) {x with tmps:=(e.zip B).foldl (λtmps (j,k)=>tmps.setIfInBounds j k) x.tmps}
 |[],a,B,F,x,d,_,_=>by simpa[rA]using d
 |_::_,[],[],F,x,d,_,_=>by simpa[rA]using d
 |_::_,[],_::_,F,x,d,g,_=>g.elim
 |_::_,_::_,[],F,x,d,g,_=>g.elim
 |j::o,I::a,k::B,F,x,d,g,i=>by
  simp[y1]at i;split at i
  .rename_i l;have:=GG (d.put (I:=j) (ff l) g.1) g.2 i;simpa[rA,Act.put]using this
  grind
def aai:Exit->Option (Option Code)
 |.normal=>h q
 |.ret=>h (h .ret)
 |.exit id=>h (h (.exit id))
 |_=>q
def iD.intro{a5:Type}{i D}{e}{b}{bh}{n}{J:a5->p an}{w}(aS:n[i]?=h (.loop D e b))(bk:b.state=.ready)(aM:c bh=b.params.size)(X:y1 D b.params.toList=f)(bo:b0 r D b.assign (λy H g=>y=.normal/\g[i]?=h (.loop D e b)/\b0 r D b.body (λy bc t=>aai y=h w/\t[i]?=h (.loop D e {b with state:=.busy}) /\
   ∃bq,rf (t.set i (.loop D e {b with state:=if w.isNone then .ready else .done,pending:=w})) (J bq)) H (g.set i (.loop D e {b with state:=.busy}))) (rA b.params.toList bh e) n):iD r i bh n w.isNone J:=by
 intro A B d Z W aL;obtain⟨tmps,fn,bn,U,aF,aG,aH,bp⟩:=W.fM aS aL;have bb:c B=b.params.size:=by grind[b6.get]
 obtain⟨a3,a4⟩:=ach (P:=P) (args:=B.toArray) aF M;refine⟨_,_,_,_,a3,a4,λaj ak k aI=>?_⟩;let E:aK:={fn:=fn,tmps:=#[],todo:=[],defers:=[],mode:=.run,kind:=.normal,roundOf:=h d}
 have o:E.kind≠.early:=by simp[E]
 have aJ:bY D n A (rA b.params.toList bh e) {tmps:=(b.params.zip B.toArray).foldl (λtmps (a2,x)=>tmps.setIfInBounds a2 x) tmps,defers:=[]}:=by
  have:=GG (x:={tmps:=tmps,defers:=[]}) (F:=e) ⟨aG,⟨[],v⟩,aH⟩ Z X;have y:(b.params.zip B.toArray).foldl (λtmps (ae:Tmp×aa)=>tmps.setIfInBounds ae.1 ae.2) tmps=(b.params.toList.zip B).foldl (λtmps (ae:Tmp×aa)=>tmps.setIfInBounds ae.1 ae.2) tmps:=by rw[<-Array.foldl_toList];simp
  grind
 show cd r aj (G (E.M {tmps:=(b.params.zip B.toArray).foldl (λtmps (a2,x)=>tmps.setIfInBounds a2 x) tmps,defers:=[]} [.code b.assign,.beginRound,.code b.body]) (ak::k)) A;refine bo A _ aJ W E [.beginRound,.code b.body] (ak::k) aj o ?_;rintro y H g bs aw ⟨rfl,aR,br⟩ az a8 O;refine .next a λa0 Y=>?_;have ai:=r.bN Y;have Q:=a8.rely ai;have aA:=az.rely ai a8;have bm:∃L,a0.m[i]?=h L/\L.v=.func (.yield d) #[] #[]:=by obtain⟨au,u,k1,z,av⟩:=(O.trans ai.aQ).box i _ _ aS U;rw[aR]at k1;cases k1;exact⟨u,z,av⟩
 obtain⟨ar,a',a9,S,T,aB,aD,aE⟩:=Q.fM aR bm;have ah:=Q.gI (gd:={b with state:=.busy}) aR S T aB aD aE (.inr rfl);have N:∀{A:a6} {n:p an} {L:Loc},A.m[i]?=h L->L.al=[d]->dx A #[⟨.obj d,m,m⟩,⟨.obj d,f,m⟩]:=λ{A n L} V o=>
  .fl (mE (b_ V) M) (mE (b_ V) M)
 refine⟨_,_,_,acr (d:=d) a o T bk,⟨⟨_,_,Q,ah.1,ah.2⟩,dx.seen (N (n:=g) S a)⟩,?_⟩;have a7:=ah.2.too5 Q;have bj:=ah.1;refine br _ aw (aA.mono a7 Q.len) bj E [] (ak::k) aj o ?_;rintro y bd bg a1 ax ⟨s,aQ,aP,bt⟩ f3 bu aN;have stA:=((O.trans ai.aQ).trans a7).trans aN;have fin:∀I j,cX a1 j->((w=q/\I=[])∨(w=h .ret/\∃k1,I=.code .ret::k1)∨(∃id k1,w=h (.exit id)/\I=.code (.exit id)::k1/\exitTo id k1=q)) ->
   ∃R C K,aq P r.b8 (G (E.M ax I) (ak::k)) j.a=.go R C.a K/\kG j C K/\cd r aj R C:=by
  intro I j l bl;have ao:=bu.rely l;have bf:∃L,j.m[i]?=h L/\L.v=.func (.yield d) #[] #[]:=by obtain⟨au,u,k1,z,av⟩:=(stA.trans l.aQ).box i _ _ aS U;rw[aQ]at k1;cases k1;exact⟨u,z,av⟩
  obtain⟨bw,ba,a_,ab,ad,aT,aU,aV⟩:=ao.fM aQ bf;have ag:=ao.gI (gd:={b with state:=if w.isNone then .ready else .done,pending:=w}) aQ ab ad aT aU aV (.inr rfl);obtain⟨aW,aX,_⟩:=bt _ ag.1;exact⟨_,_,_,acy (d:=d) a a ad bl,⟨⟨_,_,ao,ag.1,ag.2⟩,dx.seen (N (n:=bg) ab a)⟩,aI aP _ aW (((stA.trans l.aQ).trans (ag.2.too5 ao)).trans (aX.too5 ag.1))⟩
 cases y with
 |normal=>
  cases s;exact .next a λj l=>fin [] j (r.bN l) (.inl ⟨a,a⟩)
 |ret=>
  cases s;intro pre;exact .next a λj l=>fin _ j (r.bN l) (.inr (.inl ⟨a,pre,a⟩))
 |exit id=>
  cases s;intro pre aO;refine .next a λj l=>fin _ j (r.bN l) (.inr (.inr ⟨id,_,a,a,?_⟩));have:=aO [];simpa[exitTo]using this
 |_=>cases s
end
def de(o:aj P)(l:Nat)(v:Code)(aN:fw)(u:bJ)(k:p an):Prop:=
 ∀j r,bY l k j u r->bc k j->∀i t g (n:ak->a6->Prop),i.kind≠.early->i.roundOf=q ->
  (∀s d a b e,aN s d a->bY l a b d e->bc a b->dg k j a b->kO o n i t g s e b)->cd o n (G (i.M r (.code v::t)) g) j
section
variable {r:aj P}{aN:fw}
def b0.bA(l:b0 r D s aN F n):de r D s aN F n:=λp g k d i o a e b _ j=>l p g k d i o a e b j
theorem de.seq{l X}(S:de r D l (wc (de r D X aN) aN) F n):de r D (.seq l X) aN F n:=by
 intro V Q T e B K g A j b i;refine .ctl e a (λ_=>pH) λU d=>?_;refine S U Q (T.rely d e) (e.rely d) B (.code X::K) g A j b ?_;intro t N O x p M J I z;have C:=d.aQ.trans z;cases t with
 |normal=>exact M x p J I B K g A j b λt R o y s w u v k=>i t R o y s w u v (C.trans k)
 |_=>exact kO.cons (λ_ _=>rfl) E (i _ _ _ _ _ M J I C)
theorem de.block{id}(x:de r D s (uS id aN) F n):de r D (.block id s) aN F n:=by
 intro B t y e u i j p k g lX;refine .ctl e a (λ_=>zb) λz d=>?_;refine x z t (y.rely d e) (e.rely d) u (.inBlock id::i) j p k g ?_;intro ai dI ao l fL bd C ae o;have I:=d.aQ.trans o;cases ai with
 |normal=>
  exact O1
 |exit b=>
  simp[uS]at bd;split at bd
  .exact QR
  .rename_i w
   intro pre vn;have:=lX (.exit b) dI ao l fL bd C ae I (pre++[.inBlock id]) (λgj=>by
    rw[mu,vn];have:(id==b)=m:=M
    simp[exitTo,this])
   grind
 |ret=>exact lX _ _ _ _ _ bd C ae I
 |panic v=>exact lX _ _ _ _ _ bd C ae I
 |goto A=>exact lX _ _ _ _ _ bd C ae I
 |outgrown=>exact lX _ _ _ _ _ bd C ae I
def bc.jZ(a:bc n b){t:Nat->Prop}(i:∀e,t e->e<b.a.heap.size/\∀L∈b.m,e∉L.al):bc n {b with own:=t}:=
 ⟨a.mem,a.len,λk d L aE g=>ew.cd (n:=n) (b:=b) (ao:=n) (az:={b with own:=t}) ⟨λ_ _ _ a=>a,λ_ d L a j=>⟨d,L,a,j,.refl _ _⟩⟩ a.len (λ_ _=>⟨rfl,λ_=>rfl⟩) (a.box k d L aE g),a.a3,a.lt,i⟩
def bc.bO(e:bc n b){ba}{t:Nat->Prop}(y:b.own ba)(s:∀j,t j->b.own j)(E:¬t ba)(B:∀C,b.u ba C=q)(w:b.a.heap[ba]?=h (.deferred (h []))):
  bc (n++[.bo]) {b with m:=b.m++[⟨.int .i64 ba,[ba]⟩],own:=t}/\eX b {b with m:=b.m++[⟨.int .i64 ba,[ba]⟩],own:=t}:=by
 obtain⟨J,I⟩:=e.own ba y;have r:fm n b (n++[.bo]) {b with m:=b.m++[⟨.int .i64 ba,[ba]⟩],own:=t}:=by refine⟨λ_ _ _ e=>e,λl o L aE d=>⟨o,L,M,?_,.refl _ _⟩⟩;grind
 refine⟨⟨e.mem,by simp[e.len],?_,?_,?_,?_⟩,⟨a,λ_ _ _ e=>e,λ_ _ _=>rfl,e.mem,?_⟩⟩
 .intro l o L aE d;rcases rO d with v|⟨g,rfl⟩
  .have g:l<c n:=by rw[<-e.len];grind
   rw[kb g]at aE;exact(e.box l o L aE v).cd r e.len λ_ _=>⟨a,λ_=>rfl⟩
  rw[g,e.len,hn (bB _)]at aE;simp at aE;subst aE;exact⟨ba,a,w,B⟩
 .intro l u L p d i j cW k;rcases rO d with k1|⟨z,rfl⟩<;>rcases rO i with x|⟨A,rfl⟩
  .exact e.a3 l u L p k1 x j cW k
  .grind
  .grind
  grind
 .intro L d j cW;simp[fx,gH]at d;rcases d with d|rfl
  .exact e.lt L d j cW
  grind
 .intro j cW;obtain⟨F,D⟩:=e.own j (s j cW);grind
 grind
def yY:Option Code->Option Exit
 |none=>h .normal
 |some .ret=>h .ret
 |some (.exit id)=>h (.exit id)
 |_=>q
def de.rangeFunc{bO}{Y}{assign body}{bH}{pb}{ao:ι->p an}{gd:ι->Loop}(aH:∀b w,bY D n b F w->bc n b->∃aX:p aa,w.eval bO=.func (.func bH) #[] aX.toArray/\b6 n b aX pb)(aI:bl r bH (.q (.aq (.aR (c n)))::pb) (n++[.loop D F {state:=.ready,pending:=q,fn:=0,tmps:=#[],params:=Y,assign:=assign,body:=body,defers:=0}]) res ao)(bm:∀u,(ao u)[c n]?=h (.loop D F (gd u))/\(gd u).state≠.busy)(i:∀u,∃ak,yY (gd u).pending=h ak/\aN ak F ((ao u).set (c n) .x++[.bo])):de r D (.rangeFunc bO Y assign body) aN F n:=by
 intro b w bf aK j A ah bK d aR bk;obtain⟨⟨fn,aJ,W,b4⟩,b5⟩:=aI;refine .next a λe aP=>?_;have X:=r.bN aP;have x:=aK.rely X;have ai:=bf.rely X aK;obtain⟨aX,bt,N⟩:=aH e w ai x;generalize aQ:e.a.heap.size=ba;have bT:=λeR=>acw (P:=P) (eR:=eR) (i:=A) (ah:=ah) (Y:=Y) (assign:=assign) (body:=body) (j:=j) (Q:=e.a) aR d aJ W b4 bt;rw[aQ]at bT;let w1:au:={e.a with heap:=e.a.heap.push (.deferred (h []))}
 let aU:Loop:={state:=.ready,pending:=q,fn:=j.fn,tmps:=w.tmps,params:=Y,assign:=assign,body:=body,defers:=ba}
 let w2:au:={e.a with heap:=(e.a.heap.push (.deferred (h []))).push (.loop aU)}
 have bR:w2.heap.size=ba+2:=M;have bs:w1.heap.size=ba+1:=M;have aL:∀j,j<e.a.heap.size->w1.heap[j]?=e.a.heap[j]?:=λj d=>by grind
 have V:∀j,j<w1.heap.size->w2.heap[j]?=w1.heap[j]?:=λj d=>by grind
 have bI:∀j,j<e.a.heap.size->w2.heap[j]?=e.a.heap[j]?:=λj d=>by grind
 have bu:w2.heap[ba]?=h (.deferred (h [])):=M;have Z:w2.heap[ba+1]?=h (.loop aU):=M;have bx:∀j,e.a.heap.size<=j->∀t,e.u j t=q:=λj d t=>by
  cases o:e.u j t with
  |none=>rfl
  |some ae=>have:=x.block o;omega
 let k:Loc:=⟨.func (.yield (ba+1)) #[] #[],[ba+1]⟩
 let I:Loc:=⟨.int .i64 ba,[ba]⟩
 let C:Loop:={state:=.ready,pending:=q,fn:=0,tmps:=#[],params:=Y,assign:=assign,body:=body,defers:=0}
 obtain⟨bg,bh⟩:=x.c1 (cf:=e.u) (bi:=w2) y bI (λ_ _ _=>rfl) (λj d t ae o=>by grind) rfl rfl rfl;have O:fm n e (n++[.loop D F C]) ⟨e.m++[k],e.u,w2,e.own⟩:=by refine⟨λ_ _ _ bj=>bj,λbS bX L aE g=>⟨bX,L,M,?_,.refl _ _⟩⟩;grind
 obtain⟨S,bZ⟩:=bg.b0 (bX:=.loop D F C) (L:=k) bh rfl x ⟨ba+1,w.tmps,j.fn,ba,rfl,Z,ai.size,λb3=>(ai.aJ b3).mono O x.len,λt=>bx _ y t⟩ (λj d=>by grind)
 have aD:=S.jZ (t:=λj=>e.own j∨j=ba) (by
  rintro j (d|rfl)
  .exact S.own j d
  .refine⟨by grind,λL g=>?_⟩;simp[fx,gH]at g;rcases g with g|rfl
   .intro ar;have:=x.lt L g j ar;omega
   grind)
 have d1:=x.d_;obtain⟨a2,a3⟩:=d1.c1 (cf:=e.u) (bi:=w1) y aL (λ_ _ _=>rfl) (λj d t ae o=>by grind) rfl rfl rfl;obtain⟨aq,a4⟩:=a2.b0 (bX:=.x) (L:=I) a3 rfl d1 v (λj d=>by grind);obtain⟨a5,a7⟩:=aq.c1 (cf:=e.u) (bi:=w2) M V (λ_ _ _=>rfl) (λj d t ae o=>by grind) rfl rfl rfl;obtain⟨a9,a'⟩:=a5.b0 (bX:=.x) (L:=k) a7 rfl aq v (λj d=>by grind);have aF:eX ⟨e.m++[I]++[k],e.u,w2,e.own⟩ ⟨e.m++[k],e.u,w2,λj=>e.own j∨j=ba⟩:=by
  refine⟨a,λ_ _ _ bj=>bj,λ_ _ _=>rfl,S.mem,?_⟩;rintro j ((d|rfl)|⟨L,g,d⟩)
  .grind
  .exact .inr ⟨I,by simp,by grind⟩
  grind
 refine⟨_,⟨e.m++[I]++[k],e.u,w2,e.own⟩,_,bT r.b8,⟨⟨_,_,d1,a9,a4.trans a'⟩,.nil⟩,.aU aF (b5 _ (Value.func (.yield (ba+1)) #[] #[]::aX) ?_ aD bK _ λu bP ae b1 bU br bN aW=>?_)⟩
 .refine⟨⟨λbX B=>?_,k,?_,a,a⟩,?_⟩
  .rw[hn (bB _)]at B;simp at B;subst B;rfl
  .show (e.m++[k])[c n]?=_;rw[<-x.len,hn (bB _)];simp
  exact N.mono (n:=n) (b:=e) (ao:=n++[.loop D F C]) (az:=⟨e.m++[k],e.u,w2,λj=>e.own j∨j=ba⟩) ⟨O.mem,O.box⟩ x.len
 have T:(j.M {w with defers:={target:=.collected ba,args:=#[]}::w.defers} (.inRangeFunc (ba+1)::A)).finish ae=j.M {w with defers:={target:=.collected ba,args:=#[]}::w.defers} (.endRangeFunc (ba+1)::A):=cU;refine uN (ah:=ah) (s:=j.M {w with defers:={target:=.collected ba,args:=#[]}::w.defers} (.inRangeFunc (ba+1)::A)) bN bU λb2 bM=>?_;rw[T];refine .next a λK bW=>?_;have bL:=r.bN bW;have a0:=(bN.rely bM).rely bL;have bJ:=(aW.trans bM.aQ).trans bL.aQ;obtain⟨bG,aM⟩:=bm u;have aG:∃L,K.m[c n]?=h L/\L.v=.func (.yield (ba+1)) #[] #[]:=by obtain⟨ec,ag,k1,aS,aT⟩:=bJ.box (c n) (.loop D F C) k (show(n++[an.loop D F C])[c n]?=_ from wS) (by show(e.m++[k])[c n]?=_;rw[<-x.len,hn (bB _)];simp);rw[bG]at k1;cases k1;exact⟨ag,aS,aT⟩
 obtain⟨H,av,aj,ab,aV,bz,bC,bD⟩:=a0.fM bG aG;obtain⟨J,ad⟩:=a0.gI (gd:={gd u with state:=.exhausted}) (ec:=.x) bG ab aV bz bC bD (.inl rfl);refine⟨_,_,_,acs aV aM,⟨⟨_,_,a0,J,ad⟩,dx.seen (.fl (mE (b_ ab) E) (mE (b_ ab) E))⟩,?_⟩;have z:=bJ.trans (ad.too5 a0);generalize bQ:({K with a:={K.a with heap:=K.a.heap.setIfInBounds (ba+1) (.loop {{gd u with state:=.exhausted}with tmps:=H,fn:=av,defers:=aj})}}:a6)=l at J ad z;have aB:l.own ba:=by rw[z.own];grind
 have aA:l.a.heap[ba]?=h (.deferred (h [])):=by rw[z.a7 ba (.inr a)];omega
 have ax:∀t,l.u ba t=q:=λt=>by rw[z.bC ba M (λL g=>(aD.own ba (.inr a)).2 L g)];grind
 obtain⟨bF,t2⟩:=J.bO (ba:=ba) (t:=e.own) aB (λj d=>by rw[z.own];grind) (λar=>by have:=(x.own ba ar).1;omega) ax aA;refine .aU t2 ?_;have a1:dg n e ((ao u).set (c n) .x++[.bo]) {l with m:=l.m++[⟨.int .i64 ba,[ba]⟩],own:=e.own}:=by
  refine⟨M,λj d=>?_,λj t ae o=>z.mem j t ae o,λj d b0 t=>?_,λL g j d=>?_,λbS bX L aE g=>?_,z.os,z.tape,z.output,a⟩
  .show l.a.heap[j]?=_;rw[z.a7 j (.inl d)];exact bI j (x.own j d).1
  .show l.u j t=_;rw[z.bC j M (λL g=>?_)];grind
  .simp only[fx,gH]at g;rcases g with g|rfl
   .rcases z.bU L g j d with aw|⟨bV,aw,dq⟩
    .grind
    grind
   grind
  have bo:=(cQ.1 aE).1;have bn:=(cQ.1 g).1;obtain⟨ec,ag,k1,aS,aT⟩:=z.box bS bX L M M;grind
 have bd:bY D ((ao u).set (c n) .x++[.bo]) {l with m:=l.m++[⟨.int .i64 ba,[ba]⟩],own:=e.own} F {w with defers:={target:=.collected ba,args:=#[]}::w.defers}:=by
  have o:=ai.mono a1 x.len;obtain⟨bw,R⟩:=ai.defers;refine⟨o.size,⟨c ((ao u).set (c n) .x)::bw,⟨⟨M,⟨.int .i64 ba,[ba]⟩,ba,?_,a,a⟩,λar=>?_,R.mono a1.ext⟩⟩,o.aJ⟩
  .show (l.m++_)[_]?=_;rw[<-J.len,hn (bB _)];simp
  have aw:=R.e7 _ ar;grind
 obtain⟨ak,B,bq⟩:=i u;have bE:=bk ak F _ _ _ bq bd bF (X.aQ.trans a1);revert B;show yY (gd u).pending=h ak->cd r bK (G (j.M _ (((gd u).pending.map Item.code).toList++A)) ah) _;intro B;cases aO:(gd u).pending with
 |none=>rw[aO]at B;cases B;exact bE
 |some s=>
  rw[aO]at B;cases s<;>simp[yY,reduceCtorEq,eV]at B
  .subst B;exact bE [] bp
  subst B;exact bE A
def bY.callee{o}{i}(d:look F o=ax (.fn (.func i) [] cap)):∀g a,bY D n g F a->bc n g->∃e:p aa,a.eval (.tmp o)=.func (.func i) #[] e.toArray/\b6 n g e (e7 cap):=by
 intro g a l _;have b:=l.aJ o;rw[d]at b;have b:=b8 b;show ∃e:p aa,a.tmps.getD o K=.func (.func i) #[] e.toArray/\_;generalize a.tmps.getD o K=y at b;cases b with
 |fn t k d j r s u v w x=>
  grind[ql]
def bl.e6{i}{fn}{args}{ao:ι->p an}(v:P.funcs[i]?=h fn)(t:(fn.name== "runtime.NumGoroutine")=m)(l:fn.body=h s)(C:ay args.length fn.ntmps=f)(D:kF args n->de r fn.ntmps s (λA w g=>∃u,bW fn n.length (res u) (ao u) A w g) (h6 0 args) n):bl r i args n res ao:=by refine⟨⟨fn,v,t,by grind⟩,λe B b a=>?_⟩;exact(bl.hP v t l (ff C) λI y i E z F j x o d k=>D ⟨e,B,b,a⟩ I y i E z F j x o d k).2 e B b a
def RJ(fn:Func)(e:z)(a:p an):fw:=λj k g=>
 (j=.ret∨j=.normal)/\g=a/\jW a=f/\∃b i d,oM k fn.results.toList=h b/\pt b=h i/\kt i e=h d/\U d
def bl.bR{j}{fn}{args}{ao:ι->p an}(X:P.funcs[j]?=h fn)(au:(fn.name== "runtime.NumGoroutine")=m)(I:fn.body=h s)(V:ay args.length fn.ntmps=f)(aq:b0 r fn.ntmps s (λai ae g=>∃W,RJ fn (res W) (ao W) ai ae g) (h6 0 args) n):bl r j args n res ao:=by
 refine⟨⟨fn,X,au,by grind⟩,λaz B M J U i F=>?_⟩;obtain⟨ar,O⟩:=b6.get M;let t:aK:={fn:=j,tmps:=#[],todo:=[],defers:=[],mode:=.run,kind:=.normal,roundOf:=q}
 have ah:Frame.enter P j B.toArray .normal=t.M {tmps:=B.toArray++Array.replicate (fn.ntmps-B.toArray.size) K,defers:=[]} [.code s]:=by simp[Frame.enter,Frame.M,X,I,t]
 rw[ah];have V:=ff V;refine aq az {tmps:=B.toArray++Array.replicate (fn.ntmps-B.toArray.size) K,defers:=[]} ⟨by grind,⟨[],v⟩,λo=>?_⟩ J t [] i U E ?_
 .rw[yz];simp[gX,dJ,sy];have:=O o;rcases dZ o (c B) with aH|aG
  .exact Qk
  rw[wV y];trivial
 rintro ai ag g S e ⟨N,R,rfl,aw,u,aj,ax,C,D,ad,aa⟩ ab l T;have fin:∀b d,cX S d->b.fn=j->b.tmps=e.tmps->b.defers=e.defers->b.mode=.returning->b.kind=.normal->cd r U (G b i) d:=by
  intro b d a w x ak z A;have Y:=ab.rely a l;obtain⟨aB,aE,H,aD⟩:=LX (P:=P) Y C D;obtain⟨k,Q⟩:=Y.defers;have aF:e.defers=[]:=by
   cases k with
   |nil=>cases aA:e.defers with
    |nil=>rfl
    |cons aj u=>rw[aA]at Q;exact Q.elim
   |cons av k=>exact absurd rfl (vC aw _ (b_ (Q.e7 av E)))
  refine F N b aB _ ⟨w,z,by grind,A,fn,by grind,λZ _=>?_⟩ (pu ad aa H) (l.rely a) (T.trans a.aQ);rw[x];exact⟨aE Z,λai R=>by rw[aD Z #[]]at R;grind⟩
 rcases R with rfl|rfl
 .intro pre;exact .ctl l rfl (λ_=>Ef rfl) λd a=>fin _ d a rfl rfl (h5 _) rfl rfl
 exact .ctl l rfl (λ_=>Ed rfl) λd a=>fin _ d a rfl rfl (h5 _) rfl rfl
end
structure uz{P:aI}(r:aj P)(D:Nat)(aD:Array ap)(F:bJ)(n:p an)(l:Nat->z)(s:Nat->bJ)(idx:Nat->Option Nat)(last:Nat):Prop where
 cS:∀e t,aD[e]?=h t->∀ai∈t.after,eP ai=f->ai.on<e
 e5:∀e t I,aD[e]?=h t->t.dst=h I->idx I=h e/\I<D
 dQ:∀I e,idx I=h e->∃t,aD[e]?=h t/\t.dst=h I
 aq:∀e t,aD[e]?=h t->e≠last->aV r D aD.toList t (s e) n (l e) n
 eR:∀e t,aD[e]?=h t->e≠last->∀o n b ab,bz n b ab (match idx o with|some w=>(if ∃ai∈t.after,eP ai=f/\ai.on=w then l w else .any)|none=>look F o)->bz n b ab (look (s e) o)
 hx:∀t,aD[last]?=h t->∀w,w<aD.size->w≠last->∃ai∈t.after,eP ai=f/\ai.on=w
 ef:last<aD.size
section
variable {r:aj P}{l:Nat->z}{s:Nat->bJ}{idx:Nat->Option Nat}{last:Nat}
theorem Kl{a o}(j:∀b,b<aD.size->L.getD b f=f):Region.linearise.go .any aD a o L []=[]:=by
 cases a with
 |zero=>exact Dj o L
 |succ k=>
  have d:aS .any aD L=[]:=by
   cases d:aS .any aD L with
   |nil=>rfl
   |cons e g=>
    have i:e∈aS .any aD L:=M;grind[pv]
  grind[vx]
def uz.eS(u:uz r D aD F n l s idx last){W:ak->a6->Prop}{z:aK}{I}(B:z.kind≠.early){cI}(aa:∀d j,j.tmps.size=D->(∀b,bz n d (j.tmps.getD b K) (match idx b with|some o=>if o=last then .any else l o|none=>look F b))->j.defers=[]->bc n d->dg n cI n d->cd r W (G (z.M j (.inRegion aD [last]::I)) ah) d):
  ∀E L,L.size=aD.size->c (L.toList.filter (λz=>!z))<=E->¬L.getD last m=f ->
   (∀e x,aD[e]?=h x->L.getD e m=f->∀g∈x.after,eP g=f->L.getD g.on m=f) ->
   ∀d j,mg D n d (gD F l idx L) j->j.defers=[]->bc n d->dg n cI n d ->
   ∀b,cd r W (G (z.M j (.inRegion aD (Region.linearise.go .any aD E b L [])::I)) ah) d:=by
 intro E;induction E with
 |zero=>
  intro L ai ab an aF d j v S w Q b;exfalso;have T:L[last]'(by have:=u.ef;omega)∈L.toList:=by simp
  have az:=u.ef;cases B:L[last]'y with
  |true=>exact an (by simp[hv,iE (by omega:last<L.size),B])
  |false=>
   have:L[last]'y∈L.toList.filter (λz=>!z):=ji.2 ⟨T,by grind⟩;grind
 |succ E aj=>
  intro L ai ab an aF d j v S w Q b;rw[vx];cases aw:(aS .any aD L)[b % c (aS .any aD L)]? with
  |none=>
   exfalso;have ag:aS .any aD L=[]:=by
    cases ag:aS .any aD L with
    |nil=>rfl
    |cons aO aM=>
     grind[Nat.mod_lt]
   have ax:∀e,e<aD.size->L.getD e m=f:=by
    intro e;induction e using Nat.strongRecOn with
    |_ e au=>
     intro C;cases B:L.getD e m with
     |true=>rfl
     |false=>
      have T:e∈aS .any aD L:=pv.2 ⟨aD[e],iE C,by
       grind,λg X V=>by
       have:=u.cS e _ (iE C) g X V
       grind⟩
      grind
   exact an (ax last u.ef)
  |some e=>
   have C:=b_ aw;obtain⟨x,p,ar,ae⟩:=pv.1 C;have az:e<aD.size:=(jh.1 p).1;have H:¬L.getD e m=f:=M;by_cases ao:e=last
   .subst ao;have O:Region.linearise.go .any aD E (b / c (aS .any aD L)) (L.setIfInBounds e f) []=[]:=by
     refine Kl λo ad=>?_;have aq:(L.setIfInBounds e f).getD o m=f:=by
      rw[mH y];by_cases g:o=e
      .grind
      obtain⟨Z,X,V,rfl⟩:=u.hx x p o ad g;grind
     grind
    simp[O];refine aa d j v.size (λb=>?_) S w Q;have:=v.aJ b;unfold gD at this;cases i:idx b with
    |none=>grind
    |some o=>
     simp only[i]at this⊢;obtain⟨vE,bC,_⟩:=u.dQ _ _ i;by_cases g:o=e
     .rw[bs g];trivial
     rw[bm g];obtain⟨Z,X,V,rfl⟩:=u.hx x p o (jh.1 bC).1 g;grind
   have aI:(L.setIfInBounds e f).size=aD.size:=M;have aH:c ((L.setIfInBounds e f).toList.filter (λz=>!z))<=E:=by have A:L.toList[e]?=h m:=QX;grind[xL]
   have av:∀o U,aD[o]?=h U->(L.setIfInBounds e f).getD o m=f->∀g∈U.after,eP g=f->(L.setIfInBounds e f).getD g.on m=f:=wE;have aJ:¬(L.setIfInBounds e f).getD last m=f:=wE
   have aB:bY D n d (s e) j:=v.fj λb n d R N=>u.eR e x p ao b n d R (by
    unfold gD at N;cases i:idx b with
    |none=>grind
    |some o=>
     simp only[i]at N⊢;split
     .grind
     .trivial)
   have aL:∀t R,dg n d n t->bz n t R (l e)->mg D n t (gD F l idx (L.setIfInBounds e f)) (j.put x.dst R):=by
    intro t R J N;cases S:x.dst with
    |none=>
     refine⟨v.size,v.defers.imp λ_ A=>A.mono J.ext,λb=>?_⟩;have k:=(v.aJ b).mono J.ext w.len;simp only[Act.put];unfold gD at k⊢;cases i:idx b with
     |none=>grind
     |some o=>
      exact OY
    |some Y=>
     obtain⟨aG,aA⟩:=u.e5 e x Y p S;refine⟨by simp[Act.put,v.size],v.defers.imp λ_ A=>A.mono J.ext,λb=>?_⟩;simp only[Act.put];by_cases g:Y=b
     .subst g;have aN:Y<j.tmps.size:=by rw[v.size];exact aA
      simp only[hv,uI aN,h4];unfold gD;simp only[aG];rw[bs ((mH y).2 (.inl a))];exact N
     have k:=(v.aJ b).mono J.ext w.len;simp only[hv]at k⊢;rw[sH g];unfold gD at k⊢;cases i:idx b with
     |none=>grind
     |some o=>
      exact OY
   have:=u.aq e x p ao d j aB w z I ah W e (Region.linearise.go .any aD E (b / c (aS .any aD L)) (L.setIfInBounds e f) []) B M;simp only[w7]at this;exact this λR t N aE J=>aj _ aI aH aJ av t _ (aL _ _ J N) (by cases x.dst<;>exact S) aE (Q.trans J) _
theorem uz.region(B:uz r D aD F n l s idx last)(M:P.follows Departure.mixedOrders=f){A:ak->a6->Prop}{u:aK}{j}(v:u.kind≠.early){cI}{wQ}{id}(b5:bY D n cI F wQ)(J:wQ.defers=[])(y:bc n cI)(N:∀p k,k.tmps.size=D->(∀d,bz n p (k.tmps.getD d K) (match idx d with|some w=>if w=last then .any else l w|none=>look F d))->k.defers=[]->bc n p->dg n cI n p->cd r A (G (u.M k (.inRegion aD [last]::j)) ah) p):
  cd r A (G (u.M wQ (.code (.region id aD f)::j)) ah) cI:=by
 refine .next a λb i=>?_;have i:=r.bN i;have g:=y.rely i;have C:=b5.rely i y;have x:cP n b n {b with a:={b.a with drawn:=b.a.drawn+1}}:=cP.same rfl rfl rfl rfl;have z:bc n {b with a:={b.a with drawn:=b.a.drawn+1}}:=g.same rfl;have I:=i.aQ.trans (x.too5 g);refine⟨_,{b with a:={b.a with drawn:=b.a.drawn+1}},#[],Ee,⟨⟨n,n,g,z,x⟩,.nil⟩,?_⟩;simp[Region.schedule,M,Bool.true_or,dJ];refine B.eS v (cI:=cI) N aD.size _ E E wA FF _ wQ ?_ J z I _;have o:=C.mono (x.too5 g) g.len;refine⟨o.size,o.defers,λd=>?_⟩;unfold gD;cases O:idx d with
 |none=>exact o.aJ d
 |some w=>
  simp only;rw[bm]
  .exact o.aJ d
  exact wA
end
def dB(r:aj P)(x:Nat)(a:p ap)(u:ap)(w:bJ)(k:p an)(y:ι->z)(e:ι->p an):Prop:=
 ∀j l,bY x k j w l->bc k j->∀(n:aK) t g (o:ak->a6->Prop) s b,n.kind≠.early->a.toArray[s]?=h u ->
  (∀i v d,bz (e i) d v (y i)->bc (e i) d->dg k j (e i) d->cd r o (G (n.M (l.put u.dst v) (.inRegion a.toArray b::t)) g) d)->cd r o (G (n.M l (.inRegion a.toArray (s::b)::t)) g) j
def pS:p ap->Nat->(Nat->z)->p (Option Nat×z)
 |[],_,_=>[]
 |d::e,a,b=>(d.dst,b a)::pS e (a+1) b
def EU{g:Nat->z}:∀{e:p ap}{b a:Nat},(pS e b g)[a]?=(e[a]?).map λd=>(d.dst,g (b+a))
 |[],b,a=>by simp[pS]
 |d::i,b,0=>by simp[pS]
 |d::i,b,a+1=>by simp[pS,n8];rw[EU,show b+1+a=b+(a+1) by omega]
def dC(a:p ap)(b:bJ)(g:Nat->z)(d:Nat):bJ:=fR (λe=>eg e (c_ (a.getD d et).after.toList)) 0 (pS a 0 g) (mT a b)
def nq(a:p ap)(b:bJ)(d:Nat->z):bJ:=fR (λ_=>f) 0 (pS a 0 d) (mT a b)
def oj(a:Nat):p ap->Bool
 |[]=>f
 |b::d=>match fg a b.dst with|true=>oj a d|false=>m
def Io{D}:∀{e:p ap},oj D e=f->∀(a:Nat)b,e[a]?=h b->fg D b.dst=f
 |[],_,a,b,d=>by grind
 |j::k,d,a,b,g=>by
  simp[oj]at d;split at d
  .rename_i i;cases a with
   |zero=>grind
   |succ a=>exact Io d a b M
  grind
def n_:p ap->Nat->Bool
 |[],_=>f
 |b::d,a=>match tn a (c_ b.after.toList)with|true=>n_ d (a+1)|false=>m
def GA:∀{j:p ap}{i:Nat},n_ j i=f->∀(a:Nat)d,j[a]?=h d->∀g∈c_ d.after.toList,g<i+a
 |[],_,_,a,d,e=>by grind
 |n::o,i,e,a,d,b=>by
  simp[n_]at e;split at e
  .rename_i k;cases a with
   |zero=>simp at b;subst b;exact Dm k
   |succ a=>intro g l;have:=GA e a d M g l;omega
  grind
def xa(pre:Nat->Bool):p Nat->Bool
 |[]=>m
 |a::b=>match pre a with|true=>xa pre b|false=>f
theorem Gr{pre:Nat->Bool}:∀{d:p Nat},xa pre d=f->∃b∈d,pre b=m
 |[],a=>by cases a
 |b::g,a=>by
  simp[xa]at a;split at a
  .obtain⟨s,e,j⟩:=Gr a;grind
  grind
def od(pre:Nat->Bool)(b:Nat):p ap->Nat->Bool
 |[],_=>f
 |e::d,a=>match pre a with
  |true=>od pre b d (a+1)
  |false=>match af a b with
   |true=>od pre b d (a+1)
   |false=>match xa pre (c_ e.after.toList)with|true=>od pre b d (a+1)|false=>m
theorem HN{pre:Nat->Bool}{A}:∀{i:p ap}{d:Nat},od pre A i d=f->∀(a:Nat)e,i[a]?=h e->pre (d+a)=m->d+a≠A->∃n∈c_ e.after.toList,pre n=m
 |[],_,_,a,e,g=>by grind
 |r::o,d,g,a,e,b=>by
  intro j k;simp[od]at g;cases a with
  |zero=>
   simp at b;subst b;simp[ki]at j k;grind[Nat.eq_of_beq_eq_true,Gr]
  |succ a=>
   have l:od pre A o (d+1)=f:=M;exact HN l a e M M y
section
variable {r:aj P}{idx:Nat->Option Nat}
def Yt{i:Nat->z}{k}(r:∀a n b g,bz n b g (match idx a with|some j=>(if ∃d∈t.after,eP d=f/\d.on=j then i j else .any)|none=>look F a)->bz n b g (look (dC aD.toList F i e) a))(p:mg D n b (gD F i idx L) k)(s:∀d∈t.after,eP d=f->L.getD d.on m=f):bY D n b (dC aD.toList F i e) k:=p.fj λa n b g l=>r a n b g (by
 unfold gD at l;cases o:idx a with
 |none=>grind
 |some j=>
  simp only[o]at l⊢;split
  .grind
  .trivial)
def aeL{s p:Nat->z}{d}{o}(u:∀g,t.dst=h g->idx g=h e/\g<D)(N:∀g l,idx g=h l->∃t,aD[l]?=h t/\t.dst=h g)(A:aD[e]?=h t)(M:e<L.size)(O:∀l,L.getD l m=f->p l=s l)(w:c b.m=c n)(j:dg n b d az)(k:mg D n b (gD F s idx L) o)(J:bz d az ab (p e)):mg D d az (gD F p idx (L.setIfInBounds e f)) (o.put t.dst ab):=by
 have old:∀i,idx i≠h e->bz d az (o.tmps.getD i K) (gD F p idx (L.setIfInBounds e f) i):=by intro i Q;have x:=(k.aJ i).mono j.ext w;unfold gD at x⊢;grind[mH]
 cases I:t.dst with
 |none=>
  refine⟨k.size,k.defers.imp λ_ r=>r.mono j.ext,λi=>?_⟩;refine old i λy=>?_;grind
 |some g=>
  obtain⟨B,E⟩:=u g I;refine⟨by simp[Act.put,k.size],k.defers.imp λ_ r=>r.mono j.ext,λi=>?_⟩;simp[Act.put];by_cases v:g=i
  .subst v;have C:g<o.tmps.size:=by rw[k.size];exact E
   simp[hv,uI C,h4];unfold gD;simp only[B];rw[bs ((mH M).2 (.inl a))];exact J
  have:=old i (λy=>by grind);simp[hv]at this⊢;grind
def R3{Sj:∀a e,aD[a]?=h e->∀b∈e.after,eP b=f->b.on<a}(o:L.size=aD.size)(l:aS .any aD L=[]):∀a,a<aD.size->L.getD a m=f:=by
 intro a;induction a using Nat.strongRecOn with
 |_ a g=>
  intro d;cases n:L.getD a m with
  |true=>rfl
  |false=>
   have j:a∈aS .any aD L:=pv.2 ⟨aD[a],iE d,by grind,λb k i=>by grind⟩;grind
def aaX{o}(a:(aS .any aD L)[o % c (aS .any aD L)]?=q):aS .any aD L=[]:=by
 cases d:aS .any aD L with
 |nil=>rfl
 |cons e b=>
  grind[Nat.mod_lt]
theorem R5(i:L.size=aD.size)(j:c (L.toList.filter (λb=>!b))<=0):∀a,a<aD.size->L.getD a m=f:=by
 intro a g;have d:L[a]'y∈L.toList:=E;cases e:L[a]'y with
 |true=>simp[hv,iE (by omega:a<L.size),e]
 |false=>
  have:L[a]'y∈L.toList.filter (λb=>!b):=ji.2 ⟨d,by grind⟩;grind
end
def dt(b:Nat)(z:Nat->Bool):Nat->Bool:=λa=>match af a b with|true=>f|false=>z a
section
variable {r:aj P}{C:Type}{l:C->Nat->z}{idx:Nat->Option Nat}{br:C->(Nat->Bool)->p an}{fc:C->(Nat->Bool)->Prop}{s:Nat}
def kp(L:Array Bool):Nat->Bool:=λa=>L.getD a m
def Ta(a:e<L.size):kp (L.setIfInBounds e f)=dt e (kp L):=by funext w;have b:=mH (L:=L) (e:=e) (w:=w) a;simp[kp,dt];grind[Nat.eq_of_beq_eq_true,Nat.beq_refl]
def SN{s}(j:L.size=k)(i:∀e,s<=e->¬L.getD e m=f):k-s<=c (L.toList.filter (λa=>!a)):=by
 have l:(L.toList.drop s).filter (λa=>!a)=L.toList.drop s:=by rw[sr];intro a g;obtain⟨d,b,rfl⟩:=hl g;have:=i (s+d) y;simp[sv,nc]at b;simp[hv,iE (by omega:s+d<L.size),h4]at this;grind
 grind[List.drop_sublist]
theorem n2.iQ(all)(s):n2 all (List.range' s (c all-s)) (all.drop s):=by
 have key:∀a k,(∀w t,a[w]?=h t->all[k+w]?=h t)->n2 all (List.range' k (c a)) a:=by
  intro a;induction a with
  |nil=>intro k _;trivial
  |cons t b x=>
   exact Qn
 have:=key (all.drop s) s λw t u=>by grind
 grind
structure uv{P:aI}(r:aj P)(D:Nat)(aD:Array ap)(F:bJ){C:Type}(l:C->Nat->z)(br:C->(Nat->Bool)->p an)(fc:C->(Nat->Bool)->Prop)(idx:Nat->Option Nat)(s:Nat):Prop where
 cS:∀e t,aD[e]?=h t->∀ai∈t.after,eP ai=f->ai.on<e
 e5:∀e t I,aD[e]?=h t->t.dst=h I->idx I=h e/\I<D
 dQ:∀I e,idx I=h e->∃t,aD[e]?=h t/\t.dst=h I
 aq:∀κ (z:Nat->Bool) e t,fc κ z->aD[e]?=h t->e<s->z e=m->(∀ai∈t.after,eP ai=f->z ai.on=f)->(∀w KN,aD[w]?=h KN->z w=f->∀ai∈KN.after,eP ai=f->z ai.on=f)->dB r D aD.toList t (dC aD.toList F (l κ) e) (br κ z) (λbd:{Rx:C // (∀w,z w=f->l Rx w=l κ w)/\fc Rx (dt e z)}=>l bd.1 e) (λbd=>br bd.1 (dt e z))
 eR:∀(l:Nat->z) e t,aD[e]?=h t->∀o n b ab,bz n b ab (match idx o with|some w=>(if ∃ai∈t.after,eP ai=f/\ai.on=w then l w else .any)|none=>look F o)->bz n b ab (look (dC aD.toList F l e) o)
 fin:∀(l:Nat->z) o n b ab,bz n b ab (match idx o with|some w=>l w|none=>look F o)->bz n b ab (look (nq aD.toList F l) o)
 g3:∀e t,aD[e]?=h t->s<=e->∀L:Array Bool,(∀e t,aD[e]?=h t->L.getD e m=f->∀ai∈t.after,eP ai=f->L.getD ai.on m=f)->(∀ai∈t.after,eP ai=f->L.getD ai.on m=f)->∀i,i<e->L.getD i m=f
 gh:s<=aD.size
 ig:∀κ (z:Nat->Bool),fc κ z->(∀e,e<s->z e=f)->∀e,s<=e->e<aD.size->l κ e=.any
def JE(b:L.size=k)(a:e<k):L.getD e f=m↔¬L.getD e m=f:=M
theorem uv.seq(u:uv r D aD F l br fc idx s):∀n a(L:Array Bool)z,L.size=aD.size->s<=a->a<=aD.size->aD.size-a<=n->(∀p,p<aD.size->(L.getD p m=f↔p<a)) ->
  Region.linearise.go .any aD n z L []=List.range' a (aD.size-a):=by
 intro n;induction n with
 |zero=>
  grind[Dj]
 |succ n V=>
  intro a L z C W X Y B;by_cases O:a=aD.size
  .grind [Kl]
  .rw[vx];have w:a<aD.size:=y;have S:∀b k,aD[b]?=h k->L.getD b m=f->∀j∈k.after,eP j=f->L.getD j.on m=f:=λb k d i j x g=>by have o:=(jh.1 d).1;have e:=(B b o).1 i;have E:=u.cS b k d j x g;grind
   have T:∀b,b∈aS .any aD L->b=a:=λb i=>by
    obtain⟨k,d,v,U⟩:=pv.1 i;have o:=(jh.1 d).1;have K:¬b<a:=λQ=>(JE C o).1 v ((B b o).2 Q);rcases dZ a b with e|e
    .have:=u.g3 b k d y L S U a e;grind
    omega
   have R:a∈aS .any aD L:=pv.2 ⟨aD[a],iE w,(JE C w).2 (λI=>by grind),λj x g=>by
    have:=u.cS a _ (iE w) j x g
    grind⟩
   have N:0<c (aS .any aD L):=List.length_pos_of_mem R;have A:=p' z N;rw[bK A];have t:=T _ (wZ A);simp[t];rw[V (a+1) _ _ M y y y (λp J=>by grind[mH])];rw[show aD.size-a=(aD.size-(a+1))+1 by omega,List.range'_succ]
def uv.eS(o:uv r D aD F l br fc idx s){aN:ak->a6->Prop}{v:aK}{x}(Y:v.kind≠.early){dO}{cI}(X:∀b z d i,fc b z->(∀e,e<s->z e=f)->bY D (br b z) d (nq aD.toList F (l b)) i->bc (br b z) d->dg dO cI (br b z) d->cd r aN (G (v.M i (.inRegion aD (List.range' s (aD.size-s))::x)) ah) d):
  ∀u b L,fc b (kp L)->L.size=aD.size->c (L.toList.filter (λv=>!v))<=u->(∀p,s<=p->¬L.getD p m=f) ->
   (∀e A,aD[e]?=h A->L.getD e m=f->∀I∈A.after,eP I=f->L.getD I.on m=f) ->
   ∀d i,mg D (br b (kp L)) d (gD F (l b) idx L) i->bc (br b (kp L)) d->dg dO cI (br b (kp L)) d ->
   ∀n,cd r aN (G (v.M i (.inRegion aD (Region.linearise.go .any aD u n L [])::x)) ah) d:=by
 have fin:∀b L d i u n,fc b (kp L)->L.size=aD.size->c (L.toList.filter (λv=>!v))<=u->(∀p,s<=p->¬L.getD p m=f)->(∀e,e<s->L.getD e m=f)->mg D (br b (kp L)) d (gD F (l b) idx L) i->bc (br b (kp L)) d->dg dO cI (br b (kp L)) d->cd r aN (G (v.M i (.inRegion aD (Region.linearise.go .any aD u n L [])::x)) ah) d:=by
  intro b L d i u n B N R Q ai E j t;have W:=o.gh;rw[o.seq u s L n N (bB _) W (by have aE:=SN (k:=aD.size) (s:=s) N Q;omega) (λp J=>⟨λaj=>by grind,λaj=>ai p aj⟩)]
  exact X b _ d i B ai (E.fj λn ax d ar H=>o.fin (l b) n ax d ar (by
   unfold gD at H;cases w:idx n with
   |none=>grind
   |some p=>
    simp only[w]at H⊢;obtain⟨A,g,_⟩:=o.dQ _ _ w;rcases dZ p s with C|C
    .grind
    .rw[o.ig b _ B ai p C (jh.1 g).1];trivial)) j t
 intro u;induction u with
 |zero=>
  intro b L B N R Q V d i E j t n;have W:=o.gh;grind[R5]
 |succ u ab=>
  intro b L B N R Q V d i E j t n;have W:=o.gh;cases ad:(aS .any aD L)[n % c (aS .any aD L)]? with
  |none=>exact fin b L d i _ n B N R Q (λe w=>R3 (Sj:=o.cS) N (aaX ad) e y) E j t
  |some e=>
   have w:=b_ ad;obtain⟨A,g,ao,ag⟩:=pv.1 w;have aq:e<aD.size:=(jh.1 g).1;rcases dZ e s with O|O
   rotate_left
   .exact fin b L d i _ n B N R Q (λp J=>o.g3 e A g O L V ag p y) E j t
   rw[vx,ad];have av:¬L.getD e m=f:=M;have aG:c ((L.setIfInBounds e f).toList.filter (λv=>!v))<=u:=by
    have C:L.toList[e]?=h m:=by rw[Gd,iE (by omega:e<L.size)];simpa[hv,iE (by omega:e<L.size)]using av
    grind[xL]
   have au:∀S K,aD[S]?=h K->(L.setIfInBounds e f).getD S m=f->∀I∈K.after,eP I=f->(L.setIfInBounds e f).getD I.on m=f:=wE;have a:bY D (br b (kp L)) d (dC aD.toList F (l b) e) i:=Yt (o.eR (l b) e A g) E ag;have:=o.aq b (kp L) e A B g O (by unfold kp;grind) ag V d i a j v x ah aN e (Region.linearise.go .any aD u (n / c (aS .any aD L)) (L.setIfInBounds e f) []) Y M;simp only[w7]at this;refine this λaF ar ae H U T=>?_;obtain⟨aA,az,an⟩:=aF;have aw:=Ta (L:=L) (e:=e) y;simp only at H U T;rw[<-aw]at H U T an;exact ab aA _ an M aG (λp J=>by grind[mH]) au ae _ (aeL (λaB Z=>o.e5 e A aB g Z) o.dQ g y (λS aa=>az S aa) j.len T E H) U (t.trans T) _
def b0.reg(aF:P.follows Departure.mixedOrders=f)(x:Nat)(u:C->Nat->z)(Q:C->(Nat->Bool)->p an)(g:C->(Nat->Bool)->Prop)(au:C)(aU:g au λ_=>m)(aD:Q au (λ_=>m)=n)(ao:kW all=f)(a6:n_ all 0=f)(a7:oj D all=f)(a_:x<=c all)(R:∀e,x<=e->e<c all->∀L:Nat->Prop,(∀e,e<c all->L e->∀j∈c_ (all.getD e et).after.toList,L j)->(∀j∈c_ (all.getD e et).after.toList,L j)->∀K,K<e->L K)(B:∀k (z:Nat->Bool),g k z->(∀e,e<x->z e=f)->∀e,x<=e->e<c all->u k e=.any)(ag:∀k (z:Nat->Bool) e t,g k z->all[e]?=h t->e<x->z e=m->(∀j∈c_ t.after.toList,z j=f)->(∀i ae,all[i]?=h ae->z i=f->∀j∈c_ ae.after.toList,z j=f)->dB r D all t (dC all F (u k) e) (Q k z) (λaL:{aQ:C // (∀i,z i=f->u aQ i=u k i)/\g aQ (dt e z)}=>u aL.1 e) (λaL=>Q aL.1 (dt e z))){aN:fw}(aE:∀k z,g k z->(∀e,e<x->z e=f)->fb r D all (all.drop x) (aN .normal) (nq all F (u k)) (Q k z))(id:Nat):
  b0 r D (.region id all.toArray f) aN F n:=by
 have S:∀e:Nat,all.toArray[e]?=all[e]?:=λe=>by simp
 let idx:Nat->Option Nat:=λo=>(aC (c all)).find? (λe=>decide ((all.getD e et).dst=h o));have bb:∀o i,idx o=h i->∃t,all[i]?=h t/\t.dst=h o:=M;have a2:∀e t I,all[e]?=h t->t.dst=h I->idx I=h e:=by
  intro e t I cz v;have bq:e<c all:=(cQ.1 cz).1;cases aI:idx I with
  |none=>
   have:=List.find?_eq_none.1 aI e M;grind
  |some i=>
   grind[DD]
 have bd:∀o,jU o all=f↔∃i,idx o=h i:=by grind[C3,vm]
 have G:∀e t,all[e]?=h t->all.getD e et=t:=λe t bf=>by grind
 have v:uv r D all.toArray F u Q g idx x:=by
  refine⟨?_,?_,?_,?_,?_,?_,λe t cz V L aV aW K aG=>?_,by grind,λk z ar aw e l s=>B k z ar aw e l M⟩
  .intro e t cz j ad y;rw[S]at cz;have:=GA a6 e t cz j.on (l6.2 ⟨j,by grind,y,rfl⟩);omega
  .intro e t I cz v;rw[S]at cz;exact⟨a2 e t I cz v,lf (Io a7 e t cz) I v⟩
  .grind
  .intro k z e t ar cz aa T aH aX;rw[S]at cz;exact ag k z e t ar cz aa T (λj ad=>by grind[l6]) λi t J aT j ad=>by grind[l6]
  .intro u e t cz o n b ab ak;rw[S]at cz;show bz n b ab (look (dC all F u e) o);unfold dC;rw[G e t cz];rcases vz (A:=λi=>eg i (c_ t.after.toList)) (F:=mT all F) (o:=o) (d:=pS all 0 u) (e:=0)with⟨i,X,l,s,w⟩|w
   .rw[w];rw[EU]at l;cases J:all[i]? with
    |none=>grind
    |some aK=>
     simp[J,lH,eV,lI,cZ]at l;rw[a2 i aK o J l.1]at ak;simp only at ak;rw[bs]at ak
     .grind
     simp[cZ]at s;obtain⟨j,aR,aS,x⟩:=l6.1 (qM s);grind
   rw[w,tm];split
   .trivial
   grind
  .intro u o n b ab ak;show bz n b ab (look (nq all F u) o);unfold nq;rcases vz (A:=λ_=>f) (F:=mT all F) (o:=o) (d:=pS all 0 u) (e:=0)with⟨i,X,l,s,w⟩|w
   .rw[w];rw[EU]at l;grind
   rw[w,tm];split
   .trivial
   grind
  rw[S]at cz;refine R e V (cQ.1 cz).1 (λK=>L.getD K m=f) (λba a0 a' j ad=>?_) (λj ad=>?_) K aG
  .grind [l6]
  grind[l6]
 intro b aR a8 Y aS aJ aA av y U;refine .next a λO aj=>?_;have aj:=r.bN aj;have ai:=Y.rely aj;have H:=a8.rely aj Y;have N:cP n O n {O with a:={O.a with drawn:=O.a.drawn+1}}:=cP.same rfl rfl rfl rfl;have Z:bc n {O with a:={O.a with drawn:=O.a.drawn+1}}:=ai.same rfl;have a3:=aj.aQ.trans (N.too5 ai);refine⟨_,{O with a:={O.a with drawn:=O.a.drawn+1}},#[],Ee,⟨⟨n,n,ai,Z,N⟩,.nil⟩,?_⟩;simp only[Region.schedule,aF,Bool.true_or,dJ];have W:kp (Array.replicate all.toArray.size m)=λ_=>m:=by funext e;simp[kp,hv,w5];split<;>simp
 refine v.eS y (dO:=n) (cI:=b) (λk z aO ax ar aw aB s ah=>?_) all.toArray.size au _ M E E ?_ ?_ _ aR ?_ M M _
 .refine aE k z ar aw aO ax aB s aS aJ aA av _ y ?_ λa5 a4 aP az aM f3 w a9=>U .normal _ _ aP az aM f3 w (ah.trans a9);grind[n2.iQ]
 .intro e _ bq;simp[hv,w5]at bq;split at bq<;>simp at bq
 .exact FF
 rw[W,aD];have aq:=H.mono (N.too5 ai) ai.len;refine⟨aq.size,aq.defers,λo=>?_⟩;unfold gD;cases a1:idx o with
 |none=>exact aq.aJ o
 |some i=>
  simp only;rw[bm]
  .exact aq.aJ o
  exact wA
def dB.to{o:Type}{s:ι->z}{b:ι->p an}{u:o->z}{l:o->p an}(A:dB r D all t F n s b)(E:∀d,∃e,s d=u e/\b d=l e):dB r D all t F n u l:=by intro O w y j x e g v C a i k B;refine A O w y j x e g v C a i k λd S Q K M N=>?_;obtain⟨R,I,J⟩:=E d;grind
def aV.tocH{d:Type}{X}{A:d->z}{y:d->p an}(J:aV r D all t F n X ao)(o:d)(e:X=A o)(g:ao=y o):dB r D all t F n A y:=by subst e g;exactλM C I k E s b B K a j l i=>J M C I k E s b B K a j l λN x u v w=>i o N x u v w
end
section
variable {r:aj P}
theorem dB.a2{C:ι->z}{d:ι->p an}(Q:t.guard=q)(M:∀g i,bc n g->(∀E,bz n g (i E) (bG F E))->∃(e:ι)(b:a6)(k:aa),(ac i t).run P g.a=.ok (.value k) b.a/\bz (d e) b k (C e)/\bc (d e) b/\cP n g (d e) b/\dx g ((ac i t).events P g.a #[])):dB r D all t F n C d:=by intro g I K j S U J R T y w x v;refine rz w x (ja Q) λO o=>?_;have l:=j.rely o;obtain⟨e,b,k,s,u,B,A,N⟩:=M O I.eval l (eN (K.rely o j));exact⟨_,b,k,s,.inl a,⟨⟨n,d e,l,B,A⟩,N⟩,v e k b u B (o.aQ.trans (A.too5 l))⟩
def dB.dk{l}(u:aV r D all t F n l ao):dB r D all t F n (λ_:Unit=>l) (λ_=>ao):=
 λx o s g p w b k v a e i d=>u x o s g p w b k v a e i λy j=>d () y j
def aV.aO{l}(b:a1 P t (bG F) n l ao)(a:t.guard=q):aV r D all t F n l ao:=.a2 (λ_ _ _ _=>ja a) b
def aV.eval{l}(aR:bn P ad)(a:a9 r CT)(d:hG ad CT bh all F n t=h (l,q,ck))(b:U ck):aV r D all t F n l n:=eh aR a d b
def aV.y{l}(aR:bn P ad:=by exact be)(iU:a9 r CT:=by first|assumption|exact a9.nil)(u:hG ad CT [] all F n t=h (l,q,[]):=by rfl):aV r D all t F n l n:=eh aR iU u v
def q'(j:aj P)(i:Nat)(a:p ap)(g:bJ)(d:p an)(e:Nat->z)(pre:Nat->Bool):p ap->Nat->Prop
 |[],_=>True
 |k::l,b=>(match pre b with|true=>aV j i a k (dC a g e b) d (e b) d|false=>True)/\q' j i a g d e pre l (b+1)
def ra(j:aj P)(i:Nat)(a:p ap)(g:bJ)(d:p an)(e:Nat->z)(k:Nat):p ap->Nat->Prop
 |[],_=>True
 |l::n,b=>(match af b k with|true=>True|false=>aV j i a l (dC a g e b) d (e b) d)/\ra j i a g d e k n (b+1)
theorem q'.get{i:Nat->z}{pre:Nat->Bool}:∀{j:p ap}{d:Nat},q' r D all F n i pre j d->∀(b:Nat)e,j[b]?=h e->pre (d+b)=f->aV r D all e (dC all F i (d+b)) n (i (d+b)) n
 |[],_,_,b,e,g=>by grind
 |l::o,d,g,0,e,a=>λx=>by simp at a;subst a;have k:=g.1;grind
 |l::o,d,g,b+1,e,a=>λx=>by have:=q'.get g.2 b e M M;grind
theorem ra.get{i:Nat->z}{A}:∀{j:p ap}{d:Nat},ra r D all F n i A j d->∀(b:Nat)e,j[b]?=h e->d+b≠A->aV r D all e (dC all F i (d+b)) n (i (d+b)) n
 |[],_,_,b,e,g=>by grind
 |l::o,d,g,0,e,a=>λx=>by simp at a;subst a;have k:=g.1;simp only[ki]at x;grind[Nat.eq_of_beq_eq_true]
 |l::o,d,g,b+1,e,a=>λx=>by have:=ra.get g.2 b e M y;grind
def kU(pre:Nat->Bool)(d:Nat->z)(e:ι->Nat->z)(b:ι)(a:Nat):z:=match pre a with|true=>d a|false=>e b a
def DB{s}{pre:Nat->Bool}{l:Nat->z}{k:ι->Nat->z}{u:ι->p an}{br:ι->(Nat->Bool)->p an}(R:pre A=m)(T:od pre A all 0=f)(same:∀d b,pre b=f->k d b=l b)(C:∀b g,all[b]?=h g->pre b=f->aV r D all g (dC all F l b) n (l b) n)(q1:∀d (z:Nat->Bool) b g,all[b]?=h g->b≠A->b<s->z b=m->(∀e w,all[e]?=h w->z e=f->∀v∈c_ w.after.toList,z v=f)->aV r D all g (dC all F (k d) b) (br d z) (k d b) (br d (dt b z)))(B:∀g,all[A]?=h g->dB r D all g (dC all F l A) n (λd=>k d A) u)(Q:∀d (z:Nat->Bool),(∀b,z b=f->pre b=f)->u d=br d (dt A z)):
  ∀j (z:Nat->Bool) b g,(j.isSome=z A/\(j=q->∀b,z b=f->pre b=f))->all[b]?=h g->b<s->z b=m->(∀v∈c_ g.after.toList,z v=f)->(∀d w,all[d]?=h w->z d=f->∀v∈c_ w.after.toList,z v=f) ->
   dB r D all g (dC all F (j.elim l k) b) (j.elim n λd=>br d z) (λK:{E:Option ι // (∀d,z d=f->E.elim l k d=j.elim l k d)/\(E.isSome=dt b z A/\(E=q->∀e,dt b z e=f->pre e=f))}=>K.1.elim l k b) (λK=>K.1.elim n λd=>br d (dt b z)):=by
 intro j z b g N t y x J o;have U:∀{e},dt b z e=f->e=b∨z e=f:=λ{e} i=>by unfold dt at i;grind[Nat.eq_of_beq_eq_true]
 have S:∀{e},e≠b->dt b z e=z e:=λ{e} i=>by unfold dt;grind[Nat.eq_of_beq_eq_true]
 by_cases M:b=A
 .subst M;cases j with
  |some d=>grind
  |none=>
   refine(B g t).to λd=>⟨⟨h d,λe i=>same d e (N.2 a e i),?_,λI=>by cases I⟩,a,Q d z (N.2 a)⟩
   unfold dt;grind[Nat.beq_refl]
 cases j with
 |none=>
  have O:pre b=f:=by grind[HN]
  exact(C b g t O).tocH ⟨q,λ_ _=>rfl,by grind,λ_ e i=>by grind⟩ a a
 |some d=>exact(q1 d z b g t M y x o).tocH ⟨h d,λ_ _=>rfl,by grind,λI=>by cases I⟩ rfl rfl
def yM{s}{pre:Nat->Bool}{b:Option ι}{z:Nat->Bool}(i:b.isSome=z A/\(b=q->∀a,z a=f->pre a=f))(e:A<s)(g:∀a,a<s->z a=f):∃d,b=h d:=by
 cases b with
 |some d=>grind
 |none=>grind
def g.di(O:P.follows Departure.mixedOrders=f)(A)(pre:Nat->Bool)(s:Nat->z)(v:ι->Nat->z)(d:ι->p an){id}(y:kW aD.toList=f)(B:n_ aD.toList 0=f)(C:oj D aD.toList=f)(o:Nat.blt A (c aD.toList)=f)(E:pre A=m)(I:od pre A aD.toList 0=f)(t:q' r D aD.toList F n s pre aD.toList 0)(q1:∀b,ra r D aD.toList F (d b) (kU pre s v b) A aD.toList 0)(afx:dB r D aD.toList (aD.toList.getD A et) (dC aD.toList F s A) n (λb=>kU pre s v b A) d)(N:∀b,g r D bf ar .normal (nq aD.toList F (kU pre s v b)) (d b)):g r D bf (.code (.region id aD f)::ar) .normal F n:=by
 have o:=ff o;have:=b0.reg (r:=r) (D:=D) (F:=F) (n:=n) O (all:=aD.toList) (c aD.toList) (λi:Option ι=>i.elim s (kU pre s v)) (λi _=>i.elim n d) (λi z=>i.isSome=z A/\(i=q->∀e,z e=f->pre e=f)) q ⟨rfl,λ_ _ J=>by cases J⟩ a y B C (bB _)
  (λe j k=>absurd k (n7.2 j)) (λi z _ _ e j k=>absurd k (n7.2 j))
  (DB (br:=λb _=>d b) E I (λb e w=>by simp only[kU,w]) (λe u l w=>by have:=t.get e u l M;grind) (λb z e u l x _ _ _=>by have:=(q1 b).get e u l M;grind)
   (λu K=>by grind) (λ_ _ _=>rfl))
  (aN:=g r D bf ar) (λi z Q R=>by obtain⟨b,rfl⟩:=yM Q o R;rw[sB];exact .nil (N b)) id
 exact ua
end
section
variable {r:aj P}
def wj(a:p ap)(b:Nat):p Nat->Bool
 |[]=>m
 |d::e=>match eg b (c_ (a.getD d et).after.toList)with|true=>f|false=>wj a b e
def Nh{all}{e}:∀{i:p Nat},wj all e i=f->∃b,b∈i/\eg e (c_ (all.getD b et).after.toList)=f
 |[],a=>by cases a
 |b::l,a=>by
  simp only[wj]at a;cases g:eg e (c_ (all.getD b et).after.toList)with
  |true=>exact⟨b,by simp,g⟩
  |false=>
   simp only[g]at a;obtain⟨k,j,d⟩:=Nh a;exact⟨k,by simp[j],d⟩
def uL(a:p ap):Nat->p Nat->Bool
 |0,_=>f
 |d+1,b=>match eg d b with
  |true=>uL a d b
  |false=>match wj a d b with|true=>uL a d b|false=>m
def AU{all}:∀{d:Nat}{e:p Nat},uL all d e=f->∀a,a<d->eg a e=f∨∃g,eg g e=f/\eg a (c_ (all.getD g et).after.toList)=f
 |0,_,_,a,l=>by omega
 |d+1,e,b,a,l=>by
  simp[uL]at b;cases j:eg d e with
  |true=>
   simp[j]at b;by_cases k:a=d
   .subst k;exact .inl j
   exact AU b a y
  |false=>
   simp[j]at b;cases i:wj all d e with
   |false=>simp[i]at b
   |true=>
    simp[i]at b;by_cases k:a=d
    .subst k;obtain⟨g,k1,n⟩:=Nh i;exact .inr ⟨g,vA k1,n⟩
    exact AU b a y
def g.hL(G:P.follows Departure.mixedOrders=f)(A last)(pre:Nat->Bool)(s:Nat->z)(v:ι->Nat->z)(k i:ι->p an){id}(ab:kW aD.toList=f)(ad:n_ aD.toList 0=f)(ah:oj D aD.toList=f)(x:Nat.blt A (c aD.toList)=f)(ak:pre A=m)(au:od pre A aD.toList 0=f)(aa:af (last+1) (c aD.toList)=f)(V:uL aD.toList last (c_ (aD.toList.getD last et).after.toList)=f)(ai:pre last=m)(av:af last A=m)(J:q' r D aD.toList F n s pre aD.toList 0)(q1:∀a,ra r D aD.toList F (k a) (kU pre s v a) A aD.toList.dropLast 0)(u:dB r D aD.toList (aD.toList.getD A et) (dC aD.toList F s A) n (λa=>kU pre s v a A) k)(I:∀a,aV r D aD.toList (aD.toList.getD last et) (dC aD.toList F (kU pre s v a) last) (k a) (v a last) (i a))(o:∀a,g r D bf ar .normal (nq aD.toList F (kU pre s v a)) (i a)):g r D bf (.code (.region id aD f)::ar) .normal F n:=by
 have ag:=dp aa;have aw:last≠A:=by grind[Nat.beq_refl]
 have x:=ff x;have:=b0.reg (r:=r) (D:=D) (F:=F) (n:=n) G (all:=aD.toList) (c aD.toList) (λt:Option ι=>t.elim s (kU pre s v)) (λt z=>t.elim n λa=>match z last with|true=>i a|false=>k a) (λt z=>t.isSome=z A/\(t=q->∀e,z e=f->pre e=f)) q ⟨rfl,λ_ _ K=>by cases K⟩ rfl ab ad ah (bB _)
  (λe b j=>absurd j (n7.2 b)) (λt z _ _ e b j=>absurd j (n7.2 b))
  (DB (br:=λa z=>match z last with|true=>i a|false=>k a) ak au (λa e O=>by simp[kU,O]) (λe B l O=>by have:=J.get e B l (by rwa [cZ]);rwa [cZ]at this)
   (λa z e B l Y X E w=>by
    by_cases ao:e=last
    .subst ao;have b:=I a;rw[show aD.toList.getD e et=B by simp[al,l]]at b;simp[E,dt,sG];rw[show kU pre s v a e=v a e by simp[kU,ai]];exact b
    .have N:=(cQ.1 l).1;have aj:aD.toList.dropLast[e]?=h B:=M;have b:=(q1 a).get e B aj (by rwa [cZ]);rw[cZ]at b;have Q:af last e=m:=ug;have C:z last=m:=by
      cases C:z last with
      |false=>rfl
      |true=>
       have W:=bK (l:=aD.toList) (by omega:last<c aD.toList);have Z:∀o T,aD.toList[o]?=h T->aD.toList.getD o et=T:=λo T K=>by simp[al,K]
       rw[Z _ _ W]at V;rcases AU V e y with j|⟨o,j,U⟩
       .grind [qM]
       have ae:=w last _ W C o (qM j);cases aq:aD.toList[o]? with
       |none=>rw[show aD.toList.getD o et=et by simp[al,aq]]at U;simp[et,c_,eg]at U
       |some ok=>
        grind[qM]
     simp[dt,Q,C];exact b)
   (λB R=>by rw[show aD.toList.getD A et=B by simp[al,R]]at u;exact u)
   (λa z S=>by
    have C:z last=m:=M
    simp[dt,av,C]))
  (aN:=g r D bf ar) (λt z H S=>by
   obtain⟨a,rfl⟩:=yM H x S;rw[sB];simp[Option.elim,S last y]
   exact .nil (o a)) id
 exact ua
end
def jm(a:bD):aa:=.string ⟨a.toArray⟩
def St{a}{b}(d:a.data.toList=b):Value.string a=jm b:=by subst d;simp[jm]
theorem Eu{a}(d:Rd bE ab (.V a)):ab=jm a/\dX ab=f:=by
 cases d with
 |V b _=>exact⟨St b,rfl⟩
section
variable {r:aj P}{l:Nat->z}{br:(Nat->Bool)->p an}
def nl:p ap->p (p Bool)->p (p Bool)
 |[],x=>x
 |t::ba,x=>d (lN x (c_ t.after.toList)) λs=>nl ba (x++[s])
 where d:p Bool->(p Bool->p (p Bool))->p (p Bool)
 |[],bd=>bd []
 |true::ba,bd=>d ba λba=>bd (f::ba)
 |false::ba,bd=>d ba λba=>bd (m::ba)
theorem yi:∀d(a:p Bool->p (p Bool)),nl.d d a=a d
 |[],a=>rfl
 |true::b,a=>by simp[nl.d];rw[yi b]
 |false::b,a=>by simp[nl.d];rw[yi b]
def HM{a:p ap}{z:Nat->Bool}(r:∀(b:Nat)d,a[b]?=h d->z b=f->∀i∈c_ d.after.toList,z i=f):
  ∀l e,(∀k,l[k]?=a[c e+k]?)->(∀(b:Nat) g,e[b]?=h g->∀d,a[b]?=h d->(∀i∈c_ d.after.toList,z i=f)->∀j,gv g j=f->z j=f) ->
   ∀(b:Nat) (g:p Bool),(nl l e)[b]?=h g->∀d,a[b]?=h d->(∀i∈c_ d.after.toList,z i=f)->∀j,gv g j=f->z j=f
 |[],e,_,o=>o
 |d::l,e,n,o=>by
  simp[nl];rw[yi];refine HM r l _ (λk=>?_) ?_
  .have:=n (k+1);grind
  intro b g s;have t:=n 0;simp[mr,ki]at t;rcases Nat.lt_trichotomy b (c e) with v|rfl|u
  .grind
  .rw[hn (bB _)]at s;grind[BU]
  grind
def ek(a:p ap)(d e:Nat):Bool:=match(nl a [])[d]? with|some b=>gv b e|none=>m
def A7{z:Nat->Bool}(k:∀(a:Nat)b,all[a]?=h b->z a=f->∀g∈c_ b.after.toList,z g=f):∀d b,all[d]?=h b->(∀g∈c_ b.after.toList,z g=f)->∀a,ek all d a=f->z a=f:=by
 intro d b i j a e;unfold ek at e;split at e
 .rename_i s l;exact HM k all [] E E d s l b i j a e
 grind
def Gj{z:Nat->Bool}(l:∀(a:Nat)k,all[a]?=h k->z a=f->∀n∈c_ k.after.toList,z n=f)(p:z e=m):∀a,(a=e∨ek all a e=f)->z a=m:=by
 intro a j;rcases j with rfl|j
 .exact p
 cases o:z a with
 |false=>rfl
 |true=>
  have b:∃d,all[a]?=h d:=by
   cases b:all[a]? with
   |some d=>grind
   |none=>
    exfalso;have r:c (nl all [])=c all:=by
     have:∀g i,c (nl g i)=c i+c g:=by
      intro g;induction g with
      |nil=>intro i;simp[nl]
      |cons k g s=>intro i;simp[nl];grind[yi]
     grind
    unfold ek at j;grind
  obtain⟨d,b⟩:=b;have:=A7 l a d b (l a d b o) e j;grind
def cu(k:aj P)(j:Nat)(a:p ap)(i:bJ)(g:Nat->z)(e:(Nat->Bool)->p an)(b:Nat)(l:ap):Prop:=
 ∀z:Nat->Bool,(∀d,ek a b d=f->z d=f)->(∀d,(d=b∨ek a d b=f)->z d=m)->aV k j a l (dC a i g b) (e z) (g b) (e (dt b z))
def uj{P}(g:aj P)(d:Nat)(a:p ap)(b:bJ)(j:Nat->z)(e:(Nat->Bool)->p an):p ap->Nat->Prop
 |[],_=>True
 |k::l,i=>cu g d a b j e i k/\uj g d a b j e l (i+1)
theorem uj.get{all}:∀{i:p ap}{g:Nat},uj r D all F l br i g->∀d b,i[d]?=h b->cu r D all F l br (g+d) b
 |[],_,_,d,b,e=>by grind
 |j::k,g,e,0,b,a=>by simp at a;subst a;exact e.1
 |j::k,g,e,d+1,b,a=>by have:=uj.get e.2 d b M;grind
def g.cx{id}(B:P.follows Departure.mixedOrders=f)(l:Nat->z)(k:(Nat->Bool)->p an)(C:k (λ_=>m)=n)(u:kW aD.toList=f)(w:n_ aD.toList 0=f)(x:oj D aD.toList=f)(j:uj r D aD.toList F l k aD.toList 0)(E:∀z,(∀e,e<c aD.toList->z e=f)->g r D bf ar .normal (nq aD.toList F l) (k z)):g r D bf (.code (.region id aD f)::ar) .normal F n:=by
 have:=b0.reg (r:=r) (D:=D) (F:=F) (n:=n) B (all:=aD.toList) (c aD.toList) (λ_:Unit=>l) (λ_=>k) (λ_ _=>True) () v C u w x (bB _)
  (λe b d=>absurd d (n7.2 b)) (λs z _ _ e b d=>absurd d (n7.2 b))
  (λs z e t _ i _ A y o=>by have b:=j.get e t i;rw[cZ]at b;exact(b z (A7 o e t i y) (Gj o A)).tocH ⟨(),λ_ _=>rfl,v⟩ a a)
  (aN:=g r D bf ar) (λs z _ I=>by rw[sB];exact .nil (E z I)) id
 exact ua
end
section
variable {r:aj P}{l:Nat->z}{i:Bool->Bool->Bool->p an}{C j ae:Nat}
abbrev lV(e:Bool->Bool->Bool->p an)(d a b:Nat):(Nat->Bool)->p an:=λz=>e (z d) (z a) (z b)
def m1{z:Nat->Bool}(a:af w e=m):dt e z w=z w:=by simp only[dt,a]
def zE{z:Nat->Bool}:dt e z e=f:=z5
def cu.eL(a:af C e=m)(b:af j e=m)(n:af ae e=m)(o:∀d g k,aV r D all t (dC all F l e) (i d g k) (l e) (i d g k)):cu r D all F l (lV i C j ae) e t:=by intro z _ _;show aV r D all t _ (i (z C) (z j) (z ae)) _ (i (dt e z C) (dt e z j) (dt e z ae));rw[m1 a,m1 b,m1 n];exact o _ _ _
def cu.dw(aR:bn P ad:=by exact be)(iU:a9 r CT:=by first|assumption|exact a9.nil)(u:∀x s I,hG ad CT [] all (dC all F l e) (i x s I) t=h (l e,q,ck):=by intro x s I;cases x<;>cases s<;>cases I<;>rfl)(cS:af C e=m:=by rfl)(dq:af j e=m:=by rfl)(ai:af ae e=m:=by rfl)(cz:U ck:=by simp only[U,a_];omega):cu r D all F l (lV i C j ae) e t:=.eL cS dq ai λx s I=>aV.eval aR iU (u x s I) cz
def cu.aE(aR:bn P ad:=by exact be)(iU:a9 r CT:=by first|assumption|exact a9.nil)(u:∀x s I,hG ad CT [] all (dC all F l e) (i x s I) t=h (l e,q,[]):=by intro x s I;cases x<;>cases s<;>cases I<;>rfl)(cS:af C e=m:=by rfl)(dq:af j e=m:=by rfl)(ai:af ae e=m:=by rfl):cu r D all F l (lV i C j ae) e t:=.dw (ck:=[]) aR iU u cS dq ai v
def cu.eB(d:af C e=f)(s:af C e=f)(b:af j e=m)(n:af ae e=m)(p:∀g k,aV r D all t (dC all F l e) (i m g k) (l e) (i f g k)):cu r D all F l (lV i C j ae) e t:=by intro z _ u;have o:=dp d;subst o;show aV r D all t _ (i (z C) (z j) (z ae)) _ (i (dt C z C) (dt C z j) (dt C z ae));rw[zE,m1 b,m1 n,u C (.inl a)];exact p _ _
def cu.eC(g:af j e=f)(b:af C e=m)(s:af ae e=m)(d:ek all ae e=f)(u:af j e=f)(p:∀k,aV r D all t (dC all F l e) (i k m m) (l e) (i k f m)):cu r D all F l (lV i C j ae) e t:=by intro z _ n;have o:=dp g;subst o;show aV r D all t _ (i (z C) (z j) (z ae)) _ (i (dt j z C) (dt j z j) (dt j z ae));rw[zE,m1 b,m1 s,n j (.inl a),n ae (.inr d)];exact p _
def cu.eD(n:af ae e=f)(b:af C e=m)(d:af j e=m)(k:ek all e j=f)(u:af ae e=f)(s:∀o,aV r D all t (dC all F l e) (i o f m) (l e) (i o f f)):cu r D all F l (lV i C j ae) e t:=by intro z aR g;have p:=dp n;subst p;show aV r D all t _ (i (z C) (z j) (z ae)) _ (i (dt ae z C) (dt ae z j) (dt ae z ae));rw[zE,m1 b,m1 d,g ae (.inl a),aR j k];exact s _
end
def xb(a:Nat->Bool):p Nat->Bool
 |[]=>m
 |b::d=>match a b with|true=>f|false=>xb a d
def Gs{e:Nat->Bool}:∀{d:p Nat},xb e d=f->∃b∈d,e b=f
 |[],a=>by cases a
 |b::k,a=>by
  simp[xb]at a;split at a
  .grind
  obtain⟨j,g,i⟩:=Gs a;grind
def vU(a:p ap)(d:Nat):Nat->p Nat->Bool
 |0,b=>eg d b
 |g+1,b=>match eg d b with|true=>f|false=>xb (λe=>vU a d g (c_ (a.getD e et).after.toList)) b
def y5{all}{i}{L:Nat->Prop}(j:∀k,k<c all->L k->∀a∈c_ (all.getD k et).after.toList,L a):∀{l:Nat}{d:p Nat},vU all i l d=f->(∀a∈d,L a)->L i
 |0,d,b,e=>e i (qM b)
 |l+1,d,b,e=>by
  simp only[vU]at b;split at b
  .grind [qM]
  obtain⟨a,r,g⟩:=Gs b;rcases dZ a (c all) with n|n
  .exact y5 j g (j a n (e a r))
  have:all.getD a et=et:=M;rw[this]at g;exact y5 j g (λs o=>by simp[et,c_]at o)
def uO(a:p ap)(b:Nat)(d:p Nat):Nat->Bool
 |0=>f
 |e+1=>match vU a e b d with|true=>uO a b d e|false=>m
def A8{all}{i}{d}:∀{b:Nat},uO all i d b=f->∀a,a<b->vU all a i d=f
 |0,_,a,g=>by omega
 |b+1,e,a,g=>by
  simp[uO]at e;split at e
  .rename_i j;by_cases k:a=b
   .grind
   exact A8 e a y
  grind
def u5(a:p ap)(d:Nat):Nat->Nat->Bool
 |_,0=>f
 |b,e+1=>match uO a d (c_ (a.getD b et).after.toList) b with|true=>u5 a d (b+1) e|false=>m
def B7{all}{g}:∀{b e:Nat},u5 all g b e=f->∀a,b<=a->a<b+e->uO all g (c_ (all.getD a et).after.toList) a=f
 |b,0,_,a,i,j=>by omega
 |b,e+1,d,a,i,j=>by
  simp[u5]at d;split at d
  .rename_i s;by_cases k:a=b
   .grind
   exact B7 d a y y
  grind
section
variable {r:aj P}
def tq(b:Nat)(pre:Nat->Bool)(e:Nat->z)(g:ι->Nat->z)(d:ι)(a:Nat):z:=match Nat.blt a b with|true=>kU pre e g d a|false=>.any
def g.eI(ad:P.follows Departure.mixedOrders=f)(A s U)(pre:Nat->Bool)(k:Nat->z)(x:ι->Nat->z)(e:ι->p an){id}(S:kW aD.toList=f)(T:n_ aD.toList 0=f)(V:oj D aD.toList=f)(Z:pre A=m)(ab:od pre A aD.toList 0=f)(R:Nat.blt s (c aD.toList)=f)(i:Nat.blt A s=f)(Y:∀b,pre b=f->b<s)(l:u5 aD.toList U s (c aD.toList-s)=f)(w:q' r D aD.toList F n k pre aD.toList 0)(q1:∀d,ra r D aD.toList F (e d) (tq s pre k x d) A (aD.toList.take s) 0)(Q:dB r D aD.toList (aD.toList.getD A et) (dC aD.toList F k A) n (λd=>tq s pre k x d A) e)(I:∀d,g r D bf (.ae aD.toList (aD.toList.drop s)::ar) .normal (nq aD.toList F (tq s pre k x d)) (e d)):g r D bf (.code (.region id aD f)::ar) .normal F n:=by
 have R:=ff R;have i:=ff i;have:=b0.reg (r:=r) (D:=D) (F:=F) (n:=n) ad (all:=aD.toList) s (λj:Option ι=>j.elim k (tq s pre k x)) (λj _=>j.elim n e) (λj z=>j.isSome=z A/\(j=q->∀b,z b=f->pre b=f)) q ⟨rfl,λ_ _ W=>by cases W⟩ a S T V y
  (λb t B L ae o I E=>y5 ae (A8 (B7 l b t y) I E) o)
  (λj z J K b t B=>by
   obtain⟨d,rfl⟩:=yM J i K;have:Nat.blt b s=m:=by
    cases C:Nat.blt b s with
    |false=>rfl
    |true=>have:=ff C;omega
   simp[Option.elim,tq,this])
  (DB (br:=λd _=>e d) Z ab (λd b o=>by have:Nat.blt b s=f:=AD (Y b o);simp[tq,this,kU,o])
   (λb v u o=>by have:=w.get b v u M;grind)
   (λd z b v u O N _ _=>by
    have aa:(aD.toList.take s)[b]?=h v:=M
    have:=(q1 d).get b v aa M;grind)
   (λv X=>by grind) (λ_ _ _=>rfl))
  (aN:=g r D bf ar) (λj z J K=>by obtain⟨d,rfl⟩:=yM J i K;exact I d) id
 exact ua
end
def ee(b:Nat)(e:av)(i:aa):aa->(Nat->Option Obj)->Prop:=λg a=>g=.pointer (h ⟨b,0,q⟩)/\a b=h (.cells #[i] e (0,0))/\∀d,d≠b->a d=q
section
variable {r:aj P}
def aV.gu(aR:bn P ad){o C}(d){e}(an:oT all F t=f)(w:t.op=.load o (.global C))(J:c' d n=h (.J (ee C W ab)))(s:bZ ad o=h e)(aa:dX ab=f)(S:hi e [.c (.val ab)]=h (.aq (.c (.val ab)))):
  aV r D all t F n (ax (.val ab)) n:=by
 intro b T ag I j av ah au aw Q E K A;refine rz E K (j7 an _ _ _ ag) λi Y=>?_;have l:=I.rely Y;have aE:=eo J;have ao:d<c i.m:=by rw[l.len];grind
 have x:=bK ao;generalize i.m[d]=L at x;obtain⟨ae,⟨aj,y,aq⟩,H,Z,ar⟩:=l.box d _ L aE x;have z:=H C _ y;have G:C∈L.al:=(Z C).2 M
 have X:T.eval (.global C)=.pointer (h ⟨C,0,q⟩):=rfl;have N:bN n i [ab] [.c (.val ab)]:=⟨Rd.val aa,v⟩;obtain⟨R,V,O⟩:=tF (b:=i) (n:=n) (P:=P) (aR o e s) (j:=C) (off:=0) (B:=[ab]) (ah:=[.c (.val ab)]) (ai:=.aq (.c (.val ab))) (λU az u=>by
  simp only[aL,z]
  grind) N S
 refine⟨.value R,i,R,by simp[ac,w,X,Instr.loadAt,Instr.sureAddr,V],.inl a,⟨⟨n,n,l,l,.refl _ _⟩,?_⟩,A R i O l Y.aQ⟩;intro p g;have ak:p∈(loadVar o ⟨C,0,q⟩).events P i.a #[]:=by
  have ai:ac T.eval t=(do pure (.value (<-loadVar o ⟨C,0,q⟩))):=by simp[ac,w,X,Instr.loadAt,Instr.sureAddr]
  rw[ai]at g;simpa[V]using g
 obtain⟨U,u,rfl⟩:=pf (aR o e s) (k:=1) (λU u=>⟨ab,by simp only[aL,z];grind⟩) (by have:=sb S;grind) p ak;exact qr (b_ x) G
end
section
variable {r:aj P}
def ul{P}(j:aj P)(i:Nat)(a:p ap)(g:bJ)(b:p an)(e:Nat->z):p z->p ap->Nat->Prop
 |_::n,l::k,d=>aV j i a l (dC a g e d) b (e d) b/\ul j i a g b e n k (d+1)
 |[],_,_=>True
 |_::_,[],_=>False
theorem ul.get{all}{l:Nat->z}:∀{j:p z}{k:p ap}{i:Nat},ul r D all F n l j k i->∀a e,k[a]?=h e->a<c j->aV r D all e (dC all F l (i+a)) n (l (i+a)) n
 |[],_,_,_,a,e,_,b=>absurd b (iH _)
 |_::j,[],_,g,a,e,_,b=>g.elim
 |o::j,s::k,i,g,0,e,d,_=>by cases d;exact g.1
 |o::j,s::k,i,g,a+1,e,d,b=>by have:=ul.get g.2 a e d M;grind
def g.gl(C:P.follows Departure.mixedOrders=f)(ag)(s){id}(w:kW aD.toList=f)(x:n_ aD.toList 0=f)(A:oj D aD.toList=f)(j:ay (c ag) (c aD.toList)=f)(e:u5 aD.toList s (c ag) (c aD.toList-c ag)=f)(i:ul r D aD.toList F n (λd=>ag.getD d .any) ag aD.toList 0)(t:g r D bf (.ae aD.toList (aD.toList.drop (c ag))::ar) .normal (nq aD.toList F λd=>ag.getD d .any) n):g r D bf (.code (.region id aD f)::ar) .normal F n:=by
 have j:=ff j;have:=b0.reg (r:=r) (D:=D) (F:=F) (n:=n) C (all:=aD.toList) (c ag) (λ_:Unit=>λd=>ag.getD d .any) (λ_ _=>n) (λ_ _=>True) () v a w x A j
  (λd b k L E B t o=>y5 E (A8 (B7 e d b y) t o) B)
  (λu z _ _ d b k=>by grind)
  (λu z d I _ p l _ _ _=>by have b:=i.get d I p l;rw[cZ]at b;exact b.tocH ⟨(),λ_ _=>rfl,v⟩ a a)
  (aN:=g r D bf ar) (λu z _ _=>t) id
 exact ua
end
section
variable {r:aj P}
def p1{e:Type}(w:aj P)(v:Nat)(l:fw)(u:p il)(t:e->Prop)(s:e->bJ)(o:e->p an)(r:e->Nat)(x:Nat)(y:e):fw:=λn d i=>match n with
 |.normal=>∃j k,x<=k/\t j/\r j<r y/\iC d (s j)/\qG k (s j)=f/\∃a b,i=a++b/\c a=k/\(kr k a=f/\jW b=f)/\rf a (o j)
 |n=>g w v l u n d i
def g.hA{B:Type}(ab)(A:B->Prop)(e:B->bJ)(b9:B->p an)(Z:B->Nat)(l){cT}(av:iX F (e l)=h Y)(aD:U Y)(aJ:jt n (b9 l)=h cT)(ax:U cT)(aG:c n=ab)(aw:A l)(round:∀l,A l->g r D (p1 r D bf ar A e b9 Z ab l) [.code s] .normal (e l) (b9 l)):g r D bf (.code (.loop s)::ar) .normal F n:=by
 intro ak x aE u j W R J b T;have w:=jV aJ ax;obtain⟨aQ,N,_⟩:=w ak u;refine xd (λah d az=>∃X,A X/\bY D (b9 X) az (e X) d/\bc (b9 X) az/\dg n ak (b9 X) az/\Z X=ah) ?_ ?_ ⟨l,aw,(aE.le (eG av aD)).al w u,aQ,N.too5 u,a⟩
 .rintro k d az ⟨X,Q,O,C,I,ai⟩;exact Oq
 rintro ah d az ⟨X,Q,O,C,I,rfl⟩ V;refine round X Q az d O C j (.inLoop s::W) R J b ?_;intro ai aN aq v K aj H t i;cases ai with
 |normal=>
  obtain⟨ao,aK,ag,aB,aI,aH,aS,o,aa,rfl,ae,⟨aR,au⟩,aM⟩:=aj;have G:=t.drop M;obtain⟨aP,ad,aL⟩:=aM _ G;have z:=H.le aH;have S:eX v (v.cut (c o)):=⟨rfl,λ_ _ _ aF=>aF,λ_ _ _=>rfl,t.mem,λj b=>b.imp id λ⟨L,aA,b⟩=>⟨L,gV aA,b⟩⟩
  refine .aU S (V K (v.cut (c o)) (Z ao) aI ⟨ao,aB,⟨z.size,z.defers.imp λ_ cS=>(cS.drop au).mono ad.ext,λaO=>aL _ _ ((z.aJ aO).drop (vp M))⟩,aP,?_,a⟩);exact((I.trans i).drop y).trans (ad.too5 G)
 |_=>exact kO.cons (λ_ _=>rfl) E (T _ _ _ _ _ aj H t (I.trans i))
def g.fu{d:Type}{o}{i:d->Prop}{a:d->bJ}{b:d->p an}{s:d->Nat}{l}{w}(k)(X){cT}(e:o<=k)(v:iX F (a X)=h Y)(z:U Y)(t:qG k (a X)=f)(x:vF k n=f)(j:jt (n.take k) (b X)=h cT)(A:U cT)(y:kr k (n.take k)=f)(B:i X)(u:s X<s l):
  g r D (p1 r D bf w i a b s o l) [] .normal F n:=
 ⟨X,k,e,B,u,eG v z,t,n.take k,n.drop k,(uH k n).symm,by grind[Nat.le_of_ble_eq_true,yO],⟨y,(yO x).2⟩,jV j A⟩
def g.fH{t:Type}{s}{k:t->Prop}{e:t->bJ}{i:t->p an}{o:t->Nat}{l}{id}{x j y}(u:iS id x=q)(v:iS id j=h y)(z:g r D bf y .normal F n):
  g r D (p1 r D bf j k e i o s l) (.code (.exit id)::x) .normal F n:=
 b0.mono (g.bu (O:=λa b=>p1 r D bf j k e i o s l .normal a b) u v z) λd a b A=>by
  have key:∀w d,g r D (λd a b=>match d with
    |.normal=>p1 r D bf j k e i o s l .normal a b
    |d=>g r D bf j d a b) w d a b->g r D (p1 r D bf j k e i o s l) w d a b:=by
   have d:(λd a b=>match d with
    |.normal=>p1 r D bf j k e i o s l .normal a b
    |d=>g r D bf j d a b)=p1 r D bf j k e i o s l:=by funext d a b;cases d<;>rfl
   grind
  exact key _ _ A
end
def da(d:bJ)(a:p Nat):bJ:=a.map λb=>(b,look d b)
section
variable {r:aj P}
def g.dF{e:Type}(k)(aP)(d:e->Prop)(a:e->bJ)(b:e->p an)(o:e->Nat)(l){cT}(j:iX F (da F aP++a l)=h Y)(t:U Y)(x:jt n (b l)=h cT)(u:U cT)(i:c n=k)(v:d l)(round:∀l,d l->g r D (mn r D bf ar d (λl=>da F aP++a l) b o k l) [.code s] .normal (da F aP++a l) (b l)):g r D bf (.code (.loop s)::ar) .normal F n:=
 .aL k d (λl=>da F aP++a l) b o l j t x u i v round
end
section
variable {r:aj P}{l:Nat->z}{d:Bool->Bool->Bool->Bool->p an}{ae ai i C:Nat}
abbrev mF(g:Bool->Bool->Bool->Bool->p an)(b a e d:Nat):(Nat->Bool)->p an:=λz=>g (z b) (z a) (z e) (z d)
theorem nN{z:Nat->Bool}(a:af w e=m):dt e z w=z w:=by simp only[dt,a]
theorem wi{z:Nat->Bool}:dt e z e=f:=z5
def cu.jS(k:af ae e=m)(n:af ai e=m)(s:af i e=m)(p:af C e=m)(o:∀a b g j,aV r D all t (dC all F l e) (d a b g j) (l e) (d a b g j)):cu r D all F l (mF d ae ai i C) e t:=by intro z _ _;grind[nN]
def cu.jT(aR:bn P ad)(iU:a9 r CT)(cz:U ck)(u:∀x j s I,hG ad CT [] all (dC all F l e) (d x j s I) t=h (l e,q,ck):=by intro x j s I;cases x<;>cases j<;>cases s<;>cases I<;>rfl)(cS:af ae e=m:=by rfl)(dq:af ai e=m:=by rfl)(A:af i e=m:=by rfl)(w:af C e=m:=by rfl):cu r D all F l (mF d ae ai i C) e t:=.jS cS dq A w λx j s I=>aV.eval aR iU (u x j s I) cz
def cu.aY(aR:bn P ad:=by exact be)(iU:a9 r CT:=by first|assumption|exact a9.nil)(u:∀x j s I,hG ad CT [] all (dC all F l e) (d x j s I) t=h (l e,q,[]):=by intro x j s I;cases x<;>cases j<;>cases s<;>cases I<;>rfl)(cS:af ae e=m:=by rfl)(dq:af ai e=m:=by rfl)(A:af i e=m:=by rfl)(w:af C e=m:=by rfl):cu r D all F l (mF d ae ai i C) e t:=.jT (ck:=[]) aR iU v u cS dq A w
def cu.ay(dq:af ai ae=m)(I:af i ae=m)(x:af C ae=m)(s:ek all ai ae=f)(e:ek all i ae=f)(j:ek all C ae=f)(u:aV r D all t (dC all F l ae) (d m m m m) (l ae) (d f m m m)):cu r D all F l (mF d ae ai i C) ae t:=z4
def cu.eT(a:af ae ai=m)(j:af i ai=m)(e:af C ai=m)(b:ek all ai ae=f)(n:ek all i ai=f)(g:ek all C ai=f)(k:aV r D all t (dC all F l ai) (d f m m m) (l ai) (d f f m m)):cu r D all F l (mF d ae ai i C) ai t:=z4
def cu.eV(a:af ae i=m)(b:af ai i=m)(j:af C i=m)(k:ek all i ae=f)(g:ek all i ai=f)(e:ek all C i=f)(n:aV r D all t (dC all F l i) (d f f m m) (l i) (d f f f m)):cu r D all F l (mF d ae ai i C) i t:=z4
def cu.eW(a:af ae C=m)(b:af ai C=m)(j:af i C=m)(k:ek all C ae=f)(g:ek all C ai=f)(e:ek all C i=f)(n:aV r D all t (dC all F l C) (d f f f m) (l C) (d f f f f)):cu r D all F l (mF d ae ai i C) C t:=z4
end
section
variable {ad:p (Nat×bx)}
def a1.j4(aR:bn P ad){Q V}(ab:t.op=.slice o l (h Q) (h X) (h V)){G a5}(ag:bZ ad o=h G)(L:G.desc=.slice W)(ah:bZ ad W=h a5){eT}{r d p}{e w A}(ak:∀ae s,bz n ae s (η l)->Rd ae.u s (.S eT a5.size k T))(ai:η Q=ax (.int r e))(aj:η X=ax (.int d w))(aN:η V=ax (.int p A))(Z:0<=e)(aF:e<=w)(au:w<=A)(av:A<=k):
  a1 P t η n (ax (.S m a5.size (w.toNat-e.toNat) (fB e.toNat T))) n:=by
 refine .aZ λb I aw C=>?_;have U:=ak b _ (C l);have get:∀i S s,η i=ax (.int S s)->I i=.int S s:=λi S s z=>by have u:=C i;rw[z]at u;replace u:=b8 u;generalize I i=aA at u;cases u;rfl
 have O:=get Q r e ai;have N:=get X d w aj;have Y:=get V p A aN;obtain⟨aa,g,B,H,aD,aE,aG,a,az⟩:=U.b1;rw[H]at U;have K:=(aR o G ag).run_underlying (Q:=b.a);rw[L]at K;have em:((A.toNat:Nat):Int)=A:=ro y;have aq:((w.toNat:Nat):Int)=w:=ro y;have v:(aX f k g (h (.int r e)) (h (.int d w)) (h (.int p A))).run P b.a=.ok (e.toNat,w.toNat,A.toNat) b.a:=by simp[aX,run_sliceBound (P:=P) b.a p A g _ y y,run_sliceBound (P:=P) b.a d w A.toNat _ y y,run_sliceBound (P:=P) b.a r e w.toNat _ Z y]
 have an:(aX f k g (h (.int r e)) (h (.int d w)) (h (.int p A))).events P b.a #[]=#[]:=by simp[aX,run_sliceBound (P:=P) b.a p A g _ y y,run_sliceBound (P:=P) b.a d w A.toNat _ y y,lh (P:=P) b.a p A g _ y y,lh (P:=P) b.a d w A.toNat _ y y,lh (P:=P) b.a r e w.toNat _ Z y]
 refine⟨.slice (if A.toNat=e.toNat then aa else aa.map (·.add (e.toNat*a5.size))) (w.toNat-e.toNat) (A.toNat-e.toNat),?_,?_,by simp[ac,ab,H,O,N,Y,Instr.sliceAt,K,Instr.slice,v,an]⟩
 .simp[ac,ab,H,O,N,Y,Instr.sliceAt,K,Instr.slice,v,(aR W a5 ah).bc]
 cases U with
 |S ao F ar _ _ _ R M x D=>
  refine Rd.S ao (F+e.toNat*a5.size) (λi w=>ar (e.toNat+i) w) y y E (λi z=>R _ y) (λaB=>?_) (λi z w J j=>?_) (λi z w J j=>D _ y w J j)
  .rw[bm y,M y];simp[gY]
  have:=x (e.toNat+i) y w J j;grind
end
def jd(j:aa)(l:p Int):aa->(Nat->Option Obj)->Prop:=λn e=>n=j/\∃k a i,j=.map (h k)/\(∀g,e g=if g=k then h (.map a i)else q)/\MapKept.Stamped a i /\
 (∀d∈a.toList,∃b,d.key=.int .i64 b/\d.val=.bool f/\a8 .i64 b)/\∀b,b∈l↔∃d∈a.toList,d.key=.int .i64 b
structure RK(n:p an)(b:a6)(j:Nat)(ae:aa)(d:p Int)(L:Loc)(ba:Nat)(T:Array MapEntry)(s:Nat):Prop where
 b6:b.m[j]?=h L
 v:L.v=ae
 b9:ae=.map (h ba)
 a9:MapKept.Stamped T s
 cy:∀ai∈T.toList,∃k,ai.key=.int .i64 k/\ai.val=.bool f/\a8 .i64 k
 mem:∀k,k∈d↔∃ai∈T.toList,ai.key=.int .i64 k
 heap:b.a.heap[ba]?=h (.map T s)
 al:∀j,j∈L.al↔j=ba
def jd.open{ae}{d}(bQ:bc n b)(o:n[j]?=h (.J (jd ae d))):∃L g a i,RK n b j ae d L g a i:=by have e:j<c b.m:=h2;obtain⟨r,⟨k,g,a,i,l,w,s,u,p⟩,t,v,_⟩:=bQ.box j _ _ o (bK e);exact⟨_,g,a,i,bK e,k,l,s,u,p,t g _ M,λj=>by grind⟩
section
variable {ad R bd:av}{cM:aA}{ae:aa}{d:p Int}{k:Int}
def Kb{b:Array MapEntry}(g:∀a∈b.toList,∃d,a.key=.int .i64 d/\a.val=.bool f/\a8 .i64 d):∀a∈b.toList,MapKept.IsKey (.int .i64) a.key:=λa e=>by obtain⟨d,i,_⟩:=g a e;exact hz
def D2{ae}{a}(e:bz n b ab a)(d:a=cN ae):ab=ae:=by subst d;exact Rd.bk e
def LG{k}{a}(e:bz n b ab a)(d:a=ax (.int .i64 k)):ab=.int .i64 k/\a8 .i64 k:=by subst d;have:=b8 e;generalize ab=g at this;cases this;exact bw
def a1.jY(x:t.op=.lookup ad l X m)(aR:P.underlying ad=h (.map R bd))(e:P.underlying R=h (.int .i64))(T:∀J,(zeroValue bd).run P J=.ok (.bool m) J)(D:n[j]?=h (.J (jd ae d)))(S:η l=cN ae)(z:η X=ax (.int .i64 k)):a1 P t η n (ax (.bool (d.contains k))) n:=by
 refine a1.dy λp Z C s=>?_;obtain⟨L,u,A,ab,b⟩:=jd.open C D;have r:=(D2 (s l) S).trans b.b9;obtain⟨O,G⟩:=LG (s X) z;obtain⟨U,y⟩:=Jz (I:=.int .i64) (i:=.int .i64 k) rfl (Kb b.cy);have B:h8 p ⟨.obj u,m,m⟩:=mE (b_ b.b6) ((b.al u).2 a);have key:∃g:Bool,(Instr.lookup ad (.map (h u)) (.int .i64 k) m).run P p.a=.ok (.bool g) p.a/\(Instr.lookup ad (.map (h u)) (.int .i64 k) m).events P p.a #[]=#[⟨.obj u,m,m⟩]/\g=d.contains k:=by
  cases U with
  |none=>
   obtain⟨o,v⟩:=Ko (ok:=m) aR e b.heap y (λ_=>T p.a)
   exact⟨m,o,v,by
    symm;rw[<-qa,AI,b.mem]
    rintro⟨w,N,e⟩;exact y.c5 a w N e⟩
  |some F=>
   obtain⟨Y,g⟩:=F;obtain⟨o,v⟩:=Ko (ok:=m) (cM:=K) aR e b.heap y (λx=>by cases x);obtain⟨w,V,W,aa⟩:=y.gN Y g rfl;have E:w∈A.toList:=M;obtain⟨_,_,H,_⟩:=b.cy w E;exact⟨f,o.trans (show Result.ok g p.a=_ by grind),v,by symm;rw[AI,b.mem];grind⟩
 obtain⟨g,o,v,Q⟩:=key;refine⟨.bool g,?_,by rw[<-Q];exact Rd.bool,?_⟩
 .simp only[ac,x,r,O,cK,o,c7,d9]
 simp only[ac,x,r,O,aG,o,v,aJ,Sem.events_pure];exact .aq B
def a1.j0(ag:t.op=.mapUpdate ad l X cM)(aR:P.underlying ad=h (.map R bd))(D:P.underlying R=h (.int .i64))(F:n[j]?=h (.J (jd ae d)))(an:η l=cN ae)(ak:η X=ax (.int .i64 k))(aj:η cM=ax (.bool f)):a1 P t η n .any (n.set j (.J (jd ae (d++[k])))):=by
 intro r K C w;obtain⟨L,o,s,ab,e⟩:=jd.open C F;have A:=(D2 (w l) an).trans e.b9;obtain⟨aa,az⟩:=LG (w X) ak;have Z:K cM=.bool f:=by have:=w cM;rw[aj]at this;have:=b8 this;generalize K cM=Y at this;cases this;rfl
 obtain⟨aq,Q⟩:=Jz (I:=.int .i64) (i:=.int .i64 k) rfl (Kb e.cy);have y:∀Y,h8 r ⟨.obj o,Y,m⟩:=λY=>mE (b_ e.b6) ((e.al o).2 a);have G:=(jh.1 e.heap).1;have key:∃b p,(Instr.mapUpdate ad (.map (h o)) (.int .i64 k) (.bool f)).run P r.a=.ok () {r.a with heap:=r.a.heap.setIfInBounds o (.map b p)}/\(Instr.mapUpdate ad (.map (h o)) (.int .i64 k) (.bool f)).events P r.a #[]=#[⟨.obj o,m,m⟩,⟨.obj o,f,m⟩] /\
   MapKept.Stamped b p/\(∀g∈b.toList,∃k,g.key=.int .i64 k/\g.val=.bool f/\a8 .i64 k)/\∀S,S∈d++[k]↔∃g∈b.toList,g.key=.int .i64 S:=by
  cases aq with
  |none=>
   obtain⟨x,J⟩:=Nb (l:=.bool f) aR D e.heap Q;refine⟨_,_,x,J,MapKept.stamped_push e.a9 (Q.c5 a),λg O=>?_,λS=>?_⟩
   .rw[Array.toList_push,fx]at O;rcases O with O|O
    .exact e.cy g O
    grind
   rw[fx,e.mem,Array.toList_push];constructor
   .rintro(⟨g,v,B⟩|v)
    .grind
    simp_all
   grind
  |some W=>
   obtain⟨V,ar⟩:=W;obtain⟨g,v,B,aw⟩:=Q.gN V ar rfl;have U:g∈s.toList:=M;obtain⟨_,_,ai,_⟩:=e.cy g U;have au:s.modify V (λg=>{key:=.int .i64 k,val:=.bool f,born:=g.born})=s:=by
    apply Array.ext_getElem?;intro ah;rw[AJ];split
    .rename_i bq;subst bq;rw[v,<-B,<-ai];rfl
    simp
   obtain⟨x,J⟩:=Nb (l:=.bool f) aR D e.heap Q;refine⟨s,ab,x.trans (show Result.ok () {r.a with heap:=r.a.heap.setIfInBounds o (.map (s.modify V λg=>{key:=.int .i64 k,val:=.bool f,born:=g.born}) ab)}=_ by grind),J,e.a9,e.cy,λS=>?_⟩;rw[fx,e.mem];constructor
   .rintro(z|z)
    .exact z
    grind
   grind
 obtain⟨b,p,x,J,ao,H,aN⟩:=key;have N:=C.ca (j_:=jd ae (d++[k])) (cr:=L) (bi:={r.a with heap:=r.a.heap.setIfInBounds o (.map b p)}) F e.b6 rfl E (λj _ u=>by show(r.a.heap.setIfInBounds o _)[j]?=_;rw[sH (by rintro rfl;exact u ((e.al o).2 rfl))]) (λj u=>.inl u)
  ⟨λj=>if j=o then h (.map b p)else q,⟨e.v,o,b,p,e.b9,λ_=>rfl,ao,H,aN⟩,λj av u=>by grind,λj=>by rw[e.al];by_cases g:j=o<;>simp[g]⟩ a a a
 have T:r.m.set j L=r.m:=by
  apply qd;intro ah;by_cases g:j=ah
  .subst g;rw[ip (cQ.1 e.b6).1,e.b6]
  grind
 rw[T]at N;refine⟨.skip,_,?_,a,N.1,N.2,?_⟩
 .simp only[ac,ag,A,aa,Z,cK,x,c7,d9]
 simp only[ac,ag,A,aa,Z,aG,x,J,aJ,Sem.events_pure];exact .fl (y _) (y _)
end
section
variable {r:aj P}{ad:av}
def g.h4(o:t.op=.makeMap ad q)(x:t.guard=q)(y:fg D t.dst=f)(w:∀k,g r D bf (.ae all bt::ar) .normal (gb t.dst (cN k) F) (n++[.J (jd k [])])):g r D bf (.ae all (t::bt)::ar) .normal F n:=by
 refine g.cF (ι:=aa) (λk=>cN k) (λk=>n++[.J (jd k [])]) x y (λb A I e=>?_) w;let bi:au:={b.a with heap:=b.a.heap.push (.map #[] 0)}
 have B:bi.heap[b.a.heap.size]?=h (.map #[] 0):=M;have E:bi.heap.size=b.a.heap.size+1:=M;obtain⟨u,p⟩:=e.c1 (cf:=b.u) (bi:=bi) M (λi d=>by grind) (λ_ _ _=>rfl) (λi d t z j=>by have:=e.block j;omega) rfl rfl rfl;obtain⟨v,s⟩:=u.b0 p rfl e (bX:=.J (jd (.map (h b.a.heap.size)) [])) (L:=⟨.map (h b.a.heap.size),[b.a.heap.size]⟩)
  ⟨λi=>if i=b.a.heap.size then h (.map #[] 0)else q,⟨rfl,_,#[],0,rfl,λ_=>rfl,MapKept.stamped_empty 0,λl J=>by grind,λC=>by simp⟩,λi t d=>by
   grind,λi=>by by_cases l:i=b.a.heap.size<;>simp[l],λi d t=>by
   simp at d;subst d;show b.u _ _=q;cases j:b.u b.a.heap.size t with
   |none=>rfl
   |some z=>have:=e.block j;omega⟩ (λi d=>by grind)
 refine⟨.map (h b.a.heap.size),.value (.map (h b.a.heap.size)),_,.map (h b.a.heap.size),?_,.inl a,Rd.val a,v,s,?_⟩
 .simp[ac,o,Instr.makeMap,run_newObj,bi]
 simp[ac,o,Instr.makeMap];exact .nil
end
section
variable {ad:p (Nat×bx)}
def a1.h5(aR:bn P ad){Q}(aa:t.op=.slice o l (h Q) (h X) q){H a5}(aj:bZ ad o=h H)(an:H.desc=.slice W)(ar:bZ ad W=h a5){C i S}{u s}{e w}(aw:η l=cD d (.S C i S k))(K:a5.size=i){aN M}(A:n[d]?=h (.h aN M C T))(au:η Q=ax (.int u e))(av:η X=ax (.int s w))(az:0<=e)(aA:e<=w)(aB:S+w<=C):a1 P t η n (cD d (.S C i (S+e.toNat) (w.toNat-e.toNat))) n:=by
 subst K;refine .aZ λg r J p=>?_;have ai:=p l;rw[aw]at ai;have ah:=ai;change cA n g (r l) (.R d _)at ah;obtain⟨R,⟨Z,E,b,Y,V,ab,aI,ak,U,G⟩,z,ae⟩:=ah;have aH:C<=Y:=by
  obtain⟨L,aq,O⟩:=(ae _ _ _ _ A).2 rfl;rcases J.box d _ L A aq with⟨rfl,rfl⟩|⟨j,g7,B,aF,rfl,_,_,ao,_⟩
  .exact gX _
  rw[U]at O;cases O;exact ao
 have D:=p Q;rw[au]at D;replace D:=b8 D;generalize ag:r Q=aD at D;cases D;have v:=p X;rw[av]at v;replace v:=b8 v;generalize N:r X=aE at v;cases v;have F:=(aR o H aj).run_underlying (Q:=g.a);rw[an]at F;have x:(aX f k b (h (.int u e)) (h (.int s w)) q).run P g.a=.ok (e.toNat,w.toNat,b) g.a:=by simp[aX,run_sliceBound (P:=P) g.a s w b _ y y,run_sliceBound (P:=P) g.a u e w.toNat _ y y]
 have I:(aX f k b (h (.int u e)) (h (.int s w)) q).events P g.a #[]=#[]:=by
  simp[aX,run_sliceBound (P:=P) g.a s w b _ y y,run_sliceBound (P:=P) g.a u e w.toNat _ y y,
   lh (P:=P) g.a s w b _ y y,lh (P:=P) g.a u e w.toNat _ y y]
 refine⟨.slice (if b=e.toNat then Z else Z.map (·.add (e.toNat*a5.size))) (w.toNat-e.toNat) (b-e.toNat),?_,⟨R,⟨_,E,_,Y,a,by omega,by omega,ak,U,λaG=>?_⟩,z,ae⟩,by simp[ac,aa,V,ag,N,Instr.sliceAt,F,Instr.slice,x,I]⟩
 .simp[ac,aa,V,ag,N,Instr.sliceAt,F,Instr.slice,x,(aR W a5 ar).bc]
 obtain⟨j,rfl,rfl⟩:=G y;exact Qp
end
section
open Go.ChangeMaps (setBlock)
section
def Wp(d)(ty)(b j e o)(seen)(T)(clock)(t:d.heap[b]?=h (.mapIter (h j) e seen o))(v:d.heap[j]?=h (.map T clock))(A:∀l∈T.toList,l.born<e)(D:e<=o):
    ∀i∈(Instr.next (.pointer (h ⟨b,0,q⟩)) m ty).events P d #[],i.sync=m/\(i.loc=.obj b∨i.loc=.obj j):=by
  have J:(getObj b).run P d=.ok (.mapIter (h j) e seen o) d:=by simp[getObj,Sem.run,t]
  have F:(getObj j).run P d=.ok (.map T clock) d:=by simp[getObj,Sem.run,v]
  have O:∀T,(getObj b).events P d T=T.push ⟨.obj b,m,m⟩:=λT=>by simp only[getObj,Sem.events,Sem.runT,t];rfl
  have I:∀T,(getObj j).events P d T=T.push ⟨.obj j,m,m⟩:=λT=>by simp only[getObj,Sem.events,Sem.runT,v];rfl
  have K:∀w1 r k,w1.heap[b]?=h (.mapIter (h j) e seen o)->(setObj b (.mapIter (h j) e r clock)).events P w1 k=k.push ⟨.obj b,f,m⟩:=λw1 r k g=>by simp[setObj,Sem.events,Sem.runT,g];rfl
  have y:∀w1 p,w1.heap[b]?=h (.mapIter (h j) e seen o)->∃w2,(setObj b p).run P w1=.ok () w2:=λw1 p g=>⟨{w1 with heap:=w1.heap.setIfInBounds b p},by simp[setObj,Sem.run,g]⟩
  simp only[Instr.next,aG,J,F,O,I,aJ,next_test_false seen T e o A D,kg,dn];generalize z:((if(Array.filter (λl=>decide (l.born<e)) (Array.filter (λi=>!seen.contains i.born) T)).isEmpty=f then #[q]else #[])++Array.map h (Array.filter (λl=>decide (l.born<e)) (Array.filter (λi=>!seen.contains i.born) T)++Array.filter (λl=>decide (l.born≥e)) (Array.filter (λi=>!seen.contains i.born) T)))=L;have N:∃s w1,(w1=d∨w1=d.drew)/\(choose (Question.mapNext L.size)).run P d=.ok s w1/\∀T,(choose (Question.mapNext L.size)).events P d T=T:=by
    by_cases w:L.size<=1
    · exact⟨0,d,Or.inl a,by simp[choose,Sem.run,Question.forced,w],λT=>by simp⟩
    · exact⟨_,d.drew,Or.inr a,by simp only[choose,Sem.run,Question.forced,bA,w,dn,Question.cut];rfl,λT=>by simp⟩
  obtain⟨s,w1,E,B,C⟩:=N;have u:w1.heap[b]?=h (.mapIter (h j) e seen o):=by rcases E with rfl|rfl<;>exact t
  simp only[B,C,aJ];intro i n;have fin:i∈(#[⟨.obj b,m,m⟩,⟨.obj j,m,m⟩,⟨.obj b,f,m⟩]:Array aT):=by
    cases x:L[s]? with
    |none=>rw[x]at n;simp[stuck,Sem.events,Sem.runT]at n;rcases n with g|g<;>simp[g]
    |some p=>
      rw[x]at n;cases p with
      |none=>simp at n;rcases n with g|g<;>simp[g]
      |some l=>
        obtain⟨w2,M⟩:=y w1 (.mapIter (h j) e (seen.push l.born) clock) u;simp[K w1 _ _ u]at n;rcases n with g|g|g<;>simp[g]
  simp at fin;rcases fin with rfl|rfl|rfl<;>simp
def Uv(a)(b j e)(seen:Array Nat)(T)(clock)(d)(g:a.heap[b]?=h (.mapIter (h j) e (seen.push d.born) clock))(i:a.heap[j]?=h (.map T clock))(r:d∈T.toList)(s:(T.toList.map (·.born)).Nodup):
    (Instr.entry (.pointer (h ⟨b,0,q⟩))).events P a #[]=#[⟨.obj b,m,m⟩,⟨.obj j,m,m⟩]:=by
  have k:T.find? (·.born==d.born)=h d:=by rw[<-Array.find?_toList];grind[find_born]
  have o:(getObj b).run P a=.ok (.mapIter (h j) e (seen.push d.born) clock) a:=by simp[getObj,Sem.run,g]
  have l:(getObj j).run P a=.ok (.map T clock) a:=by simp[getObj,Sem.run,i]
  have p:∀T,(getObj b).events P a T=T.push ⟨.obj b,m,m⟩:=λT=>by simp only[getObj,Sem.events,Sem.runT,g];rfl
  have n:∀T,(getObj j).events P a T=T.push ⟨.obj j,m,m⟩:=λT=>by simp only[getObj,Sem.events,Sem.runT,i];rfl
  simp only[Instr.entry,aG,o,l,p,n,aJ,Array.back?_push,iG,kg,dn,k];rfl
def k7(i e:Nat)(b:Array Nat):aa->(Nat->Option Obj)->Prop:=λj a=>∃d:Nat,j=.pointer (h ⟨d,0,q⟩)/\a=λg=>if g=d then h (.mapIter (h i) e b e)else q
def uq(H:aa->(Nat->Option Obj)->Prop)(e:Nat)(b:Array MapEntry)(d:Nat):Prop:=∀g a,H g a->a e=h (.map b d)
variable {r:aj P}
def bc.ef(bQ:bc n b)(aE:n[d]?=h (.J H)){g}{T}{s}(i:uq H g T s):b.a.heap[g]?=h (.map T s)/\∃L∈b.m,g∈L.al:=by have e:d<c b.m:=h2;obtain⟨j,a,k,l,o⟩:=bQ.box d _ b.m[d] aE (bK e);have:=i _ _ a;grind
def bc.hp(bQ:bc n b){k s}{dA}(aE:n[d]?=h (.J (k7 k s dA))):∃a:Nat,b.m[d]?=h ⟨.pointer (h ⟨a,0,q⟩),((b.m[d]?).map (·.al)).getD []⟩/\b.a.heap[a]?=h (.mapIter (h k) s dA s)/\∀L,b.m[d]?=h L->∀e,e∈L.al↔e=a:=by
  have i:d<c b.m:=h2;have j:=bK i;obtain⟨l,⟨a,o,p⟩,g,u,t⟩:=bQ.box d _ b.m[d] aE j;refine⟨a,?_,g a _ M,λL r e=>?_⟩
  · rw[j];simp[<-o]
  grind
def g.range{o l I}{w A}(k:t.op=.range o (.tmp l))(ae:t.dst=h I)(W:t.guard=q)(G:fg D t.dst=f)(J:P.underlying o=h (.map w A)){ba}(R:∀b p,bY D n b F p->bc n b->p.eval (.tmp l)=.map (h ba)){qL:Nat}{H:aa->(Nat->Option Obj)->Prop}{T}{s}(aE:n[qL]?=h (.J H))(Q:uq H ba T s)(ah:g r D bf (.ae all bt::ar) .normal ((I,.q (.aq (.aR (c n))))::F) (n++[.J (k7 ba s #[])])):g r D bf (.ae all (t::bt)::ar) .normal F n:=by
  refine g.cF (ι:=Unit) (λ_=>.q (.aq (.aR (c n)))) (λ_=>n++[.J (k7 ba s #[])]) W G ?_ λ_=>by exact hz
  intro b p N i;have K:=R b p N i;obtain⟨x,L,ad,V⟩:=i.ef aE Q;have C:=run_range_map b.a o w A ba T s J x;have E:(Instr.range o (.map (h ba))).events P b.a #[]=#[⟨.obj ba,m,m⟩]:=by
    have Y:∀T,(getObj ba).events P b.a T=T.push ⟨.obj ba,m,m⟩:=λT=>by simp only[getObj,Sem.events,Sem.runT,x];rfl
    have ab:∀t M T,(newObj t).events P M T=T:=λt M T=>by simp
    simp[Instr.range,run_underlying J,MapKept.run_getObj_map x,Y,ab]
  have ag:∀d,b.a.heap.size<=d->∀t,b.u d t=q:=λd e t=>by
    cases j:b.u d t with
    |none=>rfl
    |some Z=>have:=i.block j;omega
  let bi:au:=b.a.alloc (.mapIter (h ba) s #[] s);have O:bi.heap.size=b.a.heap.size+1:=by show(b.a.heap.push _).size=_;simp
  have ai:bi.heap[b.a.heap.size]?=h (.mapIter (h ba) s #[] s):=lZ _ _;obtain⟨z,X⟩:=i.c1 (cf:=b.u) (bi:=bi) y (λd e=>iV _ _ e) (λ_ _ _=>rfl) (λd e t Z j=>by grind) rfl rfl rfl;obtain⟨u,v⟩:=z.b0 (bX:=.J (k7 ba s #[])) (L:=⟨.pointer (h ⟨b.a.heap.size,0,q⟩),[b.a.heap.size]⟩) X rfl i
    ⟨λd=>if d=b.a.heap.size then h (.mapIter (h ba) s #[] s)else q,⟨_,rfl,rfl⟩,λd t e=>by grind,λd=>by by_cases S:d=b.a.heap.size<;>simp[S],λd e t=>by grind⟩
    (λd e=>by grind)
  refine⟨(),.value (.pointer (h ⟨b.a.heap.size,0,q⟩)),_,.pointer (h ⟨b.a.heap.size,0,q⟩),?_,.inl a,⟨λbX B=>?_,⟨.pointer (h ⟨b.a.heap.size,0,q⟩),[b.a.heap.size]⟩,?_,a,a⟩,u,v,?_⟩
  · simp[ac,k,K,cK,C,c7,d9];rfl
  · rw[hn (bB _)]at B;simp at B;subst B;rfl
  · show(b.m++_)[c n]?=_
    rw[<-i.len,hn (bB _)];simp
  · exact x7 (dx.of_eq E (.aq (mE ad V))) (by simp[ac,k,K])
def bY.kq{l}(e:look F l=cN ab):∀b a,bY D n b F a->bc n b->a.eval (.tmp l)=ab:=λb a d _=>by have:=d.aJ l;rw[e]at this;exact Rd.bk this
inductive sn (T:Array MapEntry) (dA:Array Nat)
  |over (u:∀ai∈T.toList,ai.born∈dA)
  |aq (ai:MapEntry) (u:ai∈T.toList) (jr:ai.born∉dA)
def sn.dc{T}{dA}:sn T dA->z
  |.over _=>.Q [.aq (.c (.bool m))]
  |.aq a _ _=>.Q [.aq (.c (.bool f)),.aq (.v a.key),.aq (.v a.val)]
def sn.a4{T}{dA}:sn T dA->Array Nat
  |.over _=>dA
  |.aq a _ _=>dA.push a.born
def g.next{l X}{ty}(cz:t.op=.next (.tmp l) m)(aD:t.type=ty)(ab:t.dst=h X)(ag:t.guard=q)(K:fg D t.dst=f){qL kq:Nat}(Q:look F l=.q (.aq (.aR kq))){ba s}{dA}(V:n[kq]?=h (.J (k7 ba s dA))){H:aa->(Nat->Option Obj)->Prop}{T}(aE:n[qL]?=h (.J H))(aj:uq H ba T s)(Z:MapKept.Stamped T s)(az:∀b∈T.toList,dX b.key=f/\dX b.val=f)(ao:∀u:sn T dA,g r D bf (.ae all bt::ar) .normal ((X,u.dc)::F) (n.set kq (.J (k7 ba s u.a4)))):g r D bf (.ae all (t::bt)::ar) .normal F n:=by
  refine g.cF (ι:=sn T dA) (λu=>u.dc) (λu=>n.set kq (.J (k7 ba s u.a4))) ag K ?_ λu=>by rw[ab];exact ao u
  intro i ak ah p;obtain⟨e,j,y,G⟩:=p.hp V;have w:ak.eval (.tmp l)=.pointer (h ⟨e,0,q⟩):=by
    have:=ah.aJ l;rw[Q]at this;obtain⟨_,L,U,w,_⟩:=(show cA _ i _ (.aR kq)from this)
    rw[j]at U;cases U;exact w
  obtain⟨W,L,U,aB⟩:=p.ef aE aj;have aw:=b_ j;have ax:=(G _ j e).2 a;have Y:dx i ((Instr.next (.pointer (h ⟨e,0,q⟩)) m t.type).events P i.a #[]):=by
    intro b B;obtain⟨av,S|S⟩:=Wp i.a t.type e ba s s dA T s y W Z.1 (bB _) b B
    · obtain⟨N,wr,ae⟩:=b;grind[mE]
    · obtain⟨N,wr,ae⟩:=b;grind[mE]
  have aq:n.set kq (.J (k7 ba s dA))=n:=m4;rcases run_next_at (P:=P) i.a t.type e ba s s dA T s y W Z.1 (bB _)with⟨R,C⟩|⟨b,B,w1,O,C⟩
  · have au:∀b∈T.toList,b.born∈dA:=by intro b B;have:=Array.eq_empty_of_size_eq_zero R;unfold leftOf at this;grind[Array.filter_eq_empty_iff]
    refine⟨.over au,.value (.tuple #[.bool m]),i,_,?_,.inl a,⟨[.bool m],a,Rd.bool,v⟩,?_,?_,?_⟩
    · simp[ac,cz,w,cK,C,c7,d9]
    · show bc (n.set kq (.J (k7 ba s dA))) i
      grind
    · show cP n i (n.set kq (.J (k7 ba s dA))) i
      rw[aq];exact .refl _ _
    · exact x7 Y NR
  · have J:b∈T.toList/\b.born∉dA:=by simp[leftOf]at B;grind
    have A:w1.heap=i.a.heap/\w1.os=i.a.os/\w1.tape=i.a.tape/\w1.output=i.a.output:=by rcases O with rfl|rfl<;>exact⟨rfl,rfl,rfl,rfl⟩
    have aA:=p.lt _ aw e ax;have z:e<w1.heap.size:=M;obtain⟨ai,ad⟩:=p.ca (d:=kq) (j_:=k7 ba s (dA.push b.born)) (cr:=⟨.pointer (h ⟨e,0,q⟩),((i.m[kq]?).map (·.al)).getD []⟩) (bi:=setBlock w1 e (.mapIter (h ba) s (dA.push b.born) s)) V j rfl
      (by simp[setBlock,A.1]) (λo k an=>by
        have aN:e≠o:=M;simp[setBlock]
        grind) (λo k=>.inl k)
      ⟨λo=>if o=e then h (.mapIter (h ba) s (dA.push b.born) s)else q,⟨e,rfl,rfl⟩,λo t k=>by
        by_cases x:o=e
        · subst x
          simp[dJ]at k;cases k;simp[setBlock];grind
        grind,λo=>by
        rw[G _ j o]
        by_cases x:o=e<;>simp[x]⟩ (by simp[setBlock,A.2.1]) (by simp[setBlock,A.2.2.1]) (by simp[setBlock,A.2.2.2])
    obtain⟨E,I⟩:=az b J.1;refine⟨.aq b J.1 J.2,.value (.tuple #[.bool f,b.key,b.val]),_,_,?_,.inl a,⟨[.bool f,b.key,b.val],a,Rd.bool,Rd.val E,Rd.val I,v⟩,ai,ad,?_⟩
    · simp[ac,cz,w,cK,C,c7,d9]
    · exact x7 Y NR
def g.entry{l v}(j:t.op=.entry (.tmp l))(N:t.dst=h v)(R:t.guard=q)(y:fg D t.dst=f){qL kq:Nat}(O:look F l=.q (.aq (.aR kq))){ba s:Nat}{dA:Array Nat}{ai:MapEntry}(E:n[kq]?=h (.J (k7 ba s (dA.push ai.born)))){T:Array MapEntry}(aE:n[qL]?=h (.J H))(J:uq H ba T s)(u:MapKept.Stamped T s)(w:ai∈T.toList){X:z}(I:∀e:a6,bz n e (.tuple #[ai.key,ai.val]) X)(S:g r D bf (.ae all bt::ar) .normal ((v,X)::F) n):g r D bf (.ae all (t::bt)::ar) .normal F n:=by
  refine g.cF (ι:=Unit) (λ_=>X) (λ_=>n) R y ?_ λ_=>by exact hz
  intro e A C d;obtain⟨k,b,i,M⟩:=d.hp E;have o:A.eval (.tmp l)=.pointer (h ⟨k,0,q⟩):=by
    have:=C.aJ l;rw[O]at this;obtain⟨_,L,p,o,_⟩:=(show cA _ e _ (.aR kq)from this)
    rw[b]at p;cases p;exact o
  obtain⟨x,L,p,B⟩:=d.ef aE J;have K:=run_entry_at (P:=P) e.a k ba s dA T s ai i x w u.2.1;have Q:=Uv (P:=P) e.a k ba s dA T s ai i x w u.2.1;refine⟨(),.value (.tuple #[ai.key,ai.val]),e,_,?_,.inl a,I e,d,.refl _ _,?_⟩
  · simp[ac,j,o,cK,K,c7,d9]
  · exact x7 (dx.of_eq Q (.fl (mE (b_ b) ((M _ b k).2 a)) (mE p B))) (by simp[ac,j,o])
end
end
inductive fl where
 |nil (x:Option Addr)
 |row (j cap:Nat)
def c0(b:fl)(g:Nat):aa:=match b with
 |.nil d=>.slice d 0 0
 |.row e a=>.slice (h ⟨e,0,q⟩) g a
def tM(bP)(k):dX (c0 bP k)=f:=by cases bP<;>rfl
def EQ(a:p aa):Nat->p N:=λb=>[.val (a.getD b K)]
section
variable {r:aj P}
def b0.e4{aN}{dI:ι->bJ}{ao:ι->p an}(I:∀e g,bY D n e F g->bc n e->∃(b:ι)(a:a6),a.a=e.a/\bY D (ao b) a (dI b) g/\bc (ao b) a/\cP n e (ao b) a)(K:∀b,b0 r D s aN (dI b) (ao b)):b0 r D s aN F n:=by intro e g O d B v l A u t;obtain⟨b,a,N,E,y,x⟩:=I e g O d;have z:=x.too5 d;refine .aU (.of d y N z) ?_;exact K b a g E y B v l A u λC J j w k Q M o i=>t C J j w k Q M o (z.trans i)
def g.gT(d){y:an}(i:ι->an)(u:n[d]?=h y)(t:∀j L,ew n j y L->∃k,(∀ao,ew ao j (i k) L)/\fK y L (i k) L)(E:∀k,g r D bf (.code s::ar) .normal F (n.set d (i k))):g r D bf (.code s::ar) .normal F n:=by
 refine b0.e4 (dI:=λ_=>F) (ao:=λk=>n.set d (i k)) (λj M z bQ=>?_) E;have O:d<c n:=(cQ.1 u).1;have I:d<c j.m:=h2;have A:=bK I;generalize j.m[d]=L at A;obtain⟨k,J,Q⟩:=t j L (bQ.box d _ L u A);have w:fm n j (n.set d (i k)) j:=by
  refine⟨λ_ _ _ t=>t,λl o p b e=>?_⟩;by_cases x:d=l
  .subst x;rw[u]at b;cases b;rw[A]at e;cases e;simp_all
  exact⟨o,p,by grind,e,.refl _ _⟩
 have v:cP n j (n.set d (i k)) j:=
  ⟨bB _,λ_ _ _=>rfl,λ_ _ _ t=>t,λ_ _ _ _=>rfl,λL t N C=>.inr ⟨L,t,C⟩,w.box,rfl,rfl,rfl,rfl⟩
 refine⟨k,j,a,⟨z.size,z.defers.imp λ_ B=>B.mono v.ext,λK=>(z.aJ K).mono v.ext bQ.len⟩,⟨bQ.mem,by simp[bQ.len],?_,bQ.a3,bQ.lt,bQ.own⟩,v⟩;intro l o p b e;by_cases x:d=l
 .subst x;simp_all
 rw[kJ x]at b;exact(bQ.box l o p b e).cd w bQ.len λ_ _=>⟨a,λ_=>rfl⟩
def g.gD(d)(b:ι->aa->(Nat->Option Obj)->Prop)(i:n[d]?=h (.J H))(p:∀k a,H k a->∃e,b e k a)(j:∀e,g r D bf (.code s::ar) .normal F (n.set d (.J (b e)))):g r D bf (.code s::ar) .normal F n:=
 g.gT d (λe=>.J (b e)) i (λt L ⟨a,l,o⟩=>let ⟨e,bq⟩:=p _ _ l;⟨e,λ_=>⟨a,bq,o⟩,rfl⟩) j
def g.gU(d){W i}(a:Nat->p N)(x:n[d]?=h (.h W i k T))(J:∀b,b<k->c (a b)=i)(M:∀z b,b<k->∀(j:Nat) o,(a b)[j]?=h o->∃s,(T b)[j]?=h s/\∀l,Rd z l s->Rd z l o)(y:g r D bf (.code s::ar) .normal F (n.set d (.h W i k a))):g r D bf (.code s::ar) .normal F n:=by
 refine g.gT (ι:=Unit) d (λ_=>.h W i k a) x (λV L v=>⟨(),λC=>?_,λ_=>rfl,bB _⟩) λ_=>y;rcases v with U|⟨E,Z,B,X,t,u,Y,O,S,A,Q⟩
 .exact .inl U
 refine .inr ⟨E,Z,B,X,t,u,Y,O,S,⟨A.len,J,λb e j o w=>?_⟩,Q⟩;obtain⟨s,aa,R⟩:=M V.u b e j o w;obtain⟨l,K,I⟩:=A.rd b e j s aa;exact⟨l,K,R l I⟩
end
def nu:N->Bool
 |.int _ _|.bool _|.V _|.bd|.bq|.df|.val _=>f
 |_=>m
def nt:O->Bool
 |.c a=>nu a
 |.any=>f
 |_=>m
def yn:p O->Bool
 |[]=>f
 |a::b=>match nt a with|true=>yn b|false=>m
def vl:E1->Bool
 |.aq b=>nt b
 |.agg a=>yn a
def ym:p E1->Bool
 |[]=>f
 |a::b=>match vl a with|true=>ym b|false=>m
def yl:z->Bool
 |.q b=>vl b
 |.Q a=>ym a
 |.any=>f
section
theorem vk{a}{s}(b:nu s=f)(d:Rd bE ab s):Rd a ab s:=by
 cases d<;>first|(simp[nu]at b;done)|skip
 case int cS=>exact .int cS
 case bool=>exact .bool
 case V cS dq=>exact .V cS dq
 case bd=>exact .bd
 case bq=>exact .bq
 case df=>exact .df
 case val cS=>exact .val cS
def JF{a}(d:nt a=f)(e:cA n b ab a):cA ao az ab a:=by
 cases a with
 |c g=>exact vk d e
 |any=>exact e
 |_=>simp[nt]at d
def JH:∀{B:p aa}{a:p O},yn a=f->bN n b B a->bN ao az B a
 |[],[],_,_=>trivial
 |[],_::_,_,d=>d.elim
 |_::_,[],_,d=>d.elim
 |j::B,i::a,e,d=>by
  simp[yn]at e;cases g:nt i with
  |false=>grind
  |true=>simp[g]at e;exact⟨JF g d.1,JH e d.2⟩
def C2{l}(a:vl l=f)(d:ey n b ab l):ey ao az ab l:=by
 cases l with
 |aq j=>exact JF a d
 |agg i=>obtain⟨B,e,g⟩:=d;exact⟨B,e,JH a g⟩
def JG:∀{B:p aa}{a:p E1},ym a=f->eU n b B a->eU ao az B a
 |[],[],_,_=>trivial
 |[],_::_,_,d=>d.elim
 |_::_,[],_,d=>d.elim
 |j::B,i::a,e,d=>by
  simp[ym]at e;cases g:vl i with
  |false=>grind
  |true=>simp[g]at e;exact⟨C2 g d.1,JG e d.2⟩
def YG{a}(d:yl a=f)(e:bz n b ab a):bz ao az ab a:=by
 cases a with
 |q k=>exact C2 d e
 |Q j=>obtain⟨B,g,i⟩:=e;exact⟨B,g,JG d i⟩
 |any=>trivial
end
def qP:p an->Bool
 |[]=>f
 |.J _::a=>qP a
 |.x::a=>qP a
 |_=>m
def KT:∀{e:p an},qP e=f->∀a∈e,(∃H,a=.J H)∨a=.x
 |[],_,a,aE=>by grind
 |b::g,i,a,aE=>by
  have d:((∃H,b=.J H)∨b=.x)/\qP g=f:=by cases b<;>simp_all[qP]
  rcases e4.1 aE with rfl|aE
  .exact d.1
  exact KT d.2 a aE
def Ar(j:p an)(k:Nat)(o:aa)(l n:Nat)(i:Nat->p N):Prop:=
 ∀e,bc j e->∃L d,e.m[k]?=h L/\(∀a b g,e.u a b=h g->d a b=h g)/\(∀a,a∉L.al->∀b,d a b=e.u a b)/\(∀a b g,d a b=h g->e.a.cell? ⟨a,b,q⟩=h g) /\
  (∀a∈L.al,∀b,e.u a b=q)/\Rd d o (.S m l n i)
section
variable {r:aj P}
def b6.h3{n}{b}{j}:∀{B:p aa}{a:p z}{R:Nat}{e:aa},b6 n b B a->B[R]?=h e->bz n b e j->b6 n b B (a.set R j)
 |[],[],_,_,_,d,_=>by grind
 |[],_::_,_,_,d,_,_=>d.elim
 |_::_,[],_,_,d,_,_=>d.elim
 |l::B,k::a,0,e,d,i,g=>by simp at i;subst i;exact⟨g,d.2⟩
 |l::B,k::a,R+1,e,d,i,g=>⟨d.1,b6.h3 (R:=R) d.2 M g⟩
def pW(k:p an)(l g:p z):Prop:=
 ∀e B,bc k e->b6 k e B l->∃(j:Nat->Prop) (d:Mem),(∀a,j a->∃L∈e.m,a∈L.al)/\(∀a b i,e.u a b=h i->d a b=h i)/\(∀a,¬j a->∀b,d a b=e.u a b) /\
  (∀a b i,d a b=h i->e.a.cell? ⟨a,b,q⟩=h i)/\(∀a,j a->∀b,e.u a b=q)/\b6 k {e with u:=d} B g
def pW.refl(n)(bh):pW n bh bh:=λe B b d=>⟨λ_=>False,e.u,λ_ a=>a.elim,λ_ _ _ a=>a,λ_ _ _=>rfl,b.mem,λ_ a=>a.elim,d⟩
def pW.step{bh e}(I:pW n bh e)(o X){s}{i}(Q:e[o]?=h (cN s))(x:Ar n X s i k T):pW n bh (e.set o (ax (.S m i k T))):=by
 classical
 intro r B j y;obtain⟨u,d,aa,R,V,G,O,A⟩:=I r B j y;obtain⟨L,l,C,H,N,U,W,S⟩:=x r j;have p:∀a b g,d a b=h g->(d a b).or (l a b)=h g:=λa b g t=>by grind
 have w:∀a b g,l a b=h g->(d a b).or (l a b)=h g:=λa b g t=>by
  cases D:d a b with
  |none=>grind
  |some z=>
   grind
 refine⟨λa=>u a∨a∈L.al,λa b=>(d a b).or (l a b),M,λa b g t=>p a b g (R a b g t),M,?_,?_,?_⟩
 .intro a b g t;cases D:d a b with
  |none=>grind
  |some z=>grind
 .grind
 have v:fm n {r with u:=d} n {r with u:=λa b=>(d a b).or (l a b)}:=⟨p,λY u L aE C=>⟨u,L,aE,C,.refl _ _⟩⟩
 have K:=A.mono v j.len;obtain⟨Z,F⟩:=b6.get A;have E:o<c B:=M;have J:B[o]?=h s:=by have:=F o;rw[Q,bK E]at this;have:=Rd.bk (show Rd d B[o] (.val s)from this);grind
 exact K.h3 J (show bz n {r with u:=λa b=>(d a b).or (l a b)} s (ax (.S m i k T))from Rd.mono w S)
end
def cn(k:av)(j:Nat)(e:fl)(g:Nat)(b:p aa):aa->(Nat->Option Obj)->Prop:=λo d=>o=.nilFunc/\(∀r∈b,dX r=f)/\c b=g*j/\match e with
 |.nil _=>g=0/\d=λ_=>q
 |.row l a=>g<=a/\a<=9223372036854775807/\∃i,c (b++i)=a*j/\d=λn=>if n=l then h (.cells (b++i).toArray k (0,0))else q
def ma(b:Nat)(a:p aa):Nat->p N:=λd=>((a.drop (d*b)).take b).map .val
def Nd{i}{ag}(a:c ag=k*i)(bq:e<k):c (ma i ag e)=i:=by have:e*i+i<=k*i:=FN;simp[ma,a];omega
def Nc{i}{ag}{s}(b:(ma i ag e)[w]?=h s):∃a,ag[e*i+w]?=h a/\s=.val a:=by simp[ma,nf,iq,p_]at b;grind
def cn.lookup{i cap}{ag}(d:cn W i (.row j cap) k ag ab lb):∃a,c (ag++a)=cap*i/\lb j=h (.cells (ag++a).toArray W (0,0))/\∀b,(lb b).isSome=f↔b=j:=by obtain⟨_,_,_,_,_,a,e,g⟩:=d;grind
def Rd.kr{cap i}{ag}(r:∀t∈ag,dX t=f)(d:c ag=k*i)(g:k<=cap)(p:cap<=9223372036854775807)(v:∀n,bE j n=ag[n]?):Rd bE (.slice (h ⟨j,0,q⟩) k cap) (.S m i k (ma i ag)):=by refine Rd.eJ (bE:=bE) (i:=i) (k:=k) (T:=ma i ag) (B:=ag) (x:=h ⟨j,0,q⟩) (j:=j) (off:=0) (cap:=cap) (o:=m) ⟨d,λs b=>Nd d b,λs b y u e=>?_⟩ bp g p E (λz l w=>by grind);obtain⟨l,a,rfl⟩:=Nc e;exact⟨l,a,.val (r l (b_ a))⟩
section
variable {r:aj P}
def cn.fK{i d}{bP}{ag}(e:n[d]?=h (.J (cn W i bP k ag)))(T:Nat->p N)(C:∀a,a<k->c (T a)=i/\∀J b g D,(T a)[b]?=h g->ag[a*i+b]?=h D->Rd J D g):Ar n d (c0 bP k) i k T:=by
 intro r bQ;have ab:=(cQ.1 e).1;have X:d<c r.m:=h2;have s:=bK X;generalize r.m[d]=L at s;obtain⟨Q,H,R,F,v⟩:=bQ.box d _ L e s;cases bP with
 |nil K=>
  obtain⟨_,_,_,rfl,_⟩:=H;exact⟨L,r.u,s,λ_ _ _ S=>S,λ_ _ _=>rfl,bQ.mem,v,Rd.dL⟩
 |row j cap=>
  obtain⟨ai,ae,Z,aa⟩:=H.lookup;obtain⟨ah,G,y,V,O,_⟩:=H;have I:=(F j).2 M
  have Y:=R j _ Z;obtain⟨t,u⟩:=bQ.fy (j:=j) (B:=ag) (v j I) (λl ao U=>by
   simp[aL,Y]
   grind)
  refine⟨L,λz l=>if z=j then ag[l]? else r.u z l,s,u,λz aN l=>bm M,t.mem,v,?_⟩;refine Rd.eJ (i:=i) (k:=k) (T:=T) (B:=ag) (x:=h ⟨j,0,q⟩) (j:=j) (off:=0) (cap:=cap) (o:=m) ⟨y,λa bq=>(C a bq).1,λa bq b g w=>?_⟩ bp V O E (λak an aj=>by grind);have ad:b<i:=M;have A:a*i+b<c ag:=by rw[y];have:a*i+i<=k*i:=FN;omega
  exact⟨ag[a*i+b],bK A,(C a bq).2 _ b g _ w (bK A)⟩
def eB.fv{i}(C:j9 P t l X W a5)(aa:a5.size=i){bP}{ag}(S:bG F l=cN (c0 bP k))(Y:n[d]?=h (.J (cn W i bP k ag))){sa}{dM:Nat->p N}(bn:bG F X=ax (.S sa i 1 dM)){h1}(bF:c h1=i)(bu:∀bE g (s:Nat) bq,(dM 0)[s]?=h bq->Rd bE g bq->h1[s]?=h g/\dX g=f)(v:(k+1)*a5.bytes<=140737488355328):
  eB P D t F n (λaN:fl=>cN (c0 aN (k+1))) λaN=>n.set d (.J (cn W i aN (k+1) (ag++h1))):=by
 intro b aA aJ bQ;obtain⟨bV,t2,aW,ce,Z,w,z,a2,G⟩:=C.op;have bj:=(cQ.1 Y).1;have aq:d<c b.m:=h2;have J:=bK aq;generalize b.m[d]=L at J;obtain⟨bO,az,bL,aH,aD⟩:=bQ.box d _ L Y J;have a':=b_ J;have aj:=eN aJ l;rw[S]at aj;have aj:=Rd.bk aj;have R:=eN aJ X;rw[bn]at R;have R:=b8 R;have bM:=az.2.1;have ba:=az.2.2.1;have bS:∀j,b.a.heap.size<=j->∀t,b.u j t=q:=λj v t=>by
  cases bk:b.u j t with
  |none=>rfl
  |some g=>have:=bQ.block bk;omega
 have mk:∀o x cap,c0 bP k=.slice x k cap->cap<k+1->bc (n.map λ_=>.x) {b with u:=o}->(∀e t g,b.u e t=h g->o e t=h g) ->
   Rd o (.slice x k cap) (.S m i k (ma i ag))->(∀{I},dx {b with u:=o} I->dx b I) ->
   ∃aW av ab g,(ac aA.eval t).run P b.a=.ok av ab.a/\(av=.value g∨(av=.skip/\g=K))/\bz (n.set d (.J (cn W i aW (k+1) (ag++h1)))) ab g (cN (c0 aW (k+1)))/\bc (n.set d (.J (cn W i aW (k+1) (ag++h1)))) ab/\cP n b (n.set d (.J (cn W i aW (k+1) (ag++h1)))) ab/\dx b ((ac aA.eval t).events P b.a #[]):=by
  intro o x cap aP r ai aE aF ad;have a3:Rd ({b with u:=o}:a6).u (aA.eval X) (.S sa a5.size 1 dM):=by rw[aa];exact R.mono aE
  have bp:Rd ({b with u:=o}:a6).u (.slice x k cap) (.S m a5.size k (ma i ag)):=M;obtain⟨B,u,bo,O,V,f3,f4,f5⟩:=vV (P:=P) (b:={b with u:=o}) (ty:=t.type) w z a2 G C.elem ai bp a3 r v C.bytes;have f6:=u_ (P:=P) (b:={b with u:=o}) (ty:=t.type) w z a2 G C.elem ai bp a3 r v C.bytes;rw[aa]at O f4;have bC:=O.len;have bt:c ag+i=(k+1)*i:=M;have aM:0<i:=by have:=C.size;omega
  have aG:∀s,s<i->∃g,B[k*i+s]?=h g/\h1[s]?=h g/\dX g=f:=λs bh=>by
   have aS:=O.bI k y;have aV:cg k (ma i ag) dM k=dM 0:=by simp[cg]
   rw[aV]at aS;obtain⟨g,a0,a1⟩:=O.rd k y s ((dM 0)[s]'y) M;grind
  have aR:B=ag++h1:=by
   apply qd;intro T;by_cases br:T<c ag
   .have w:T / i<k:=su M;have bx:=uC T i;have aU:=Nd (i:=i) ba w;have bs:cg k (ma i ag) dM (T / i)=ma i ag (T / i):=by simp[cg,w]
    have aK:T % i<c (ma i ag (T / i)):=by rw[aU];exact p' _ aM
    obtain⟨g,a0,a1⟩:=O.rd (T / i) y (T % i) ((ma i ag (T / i))[T % i]) M;obtain⟨bW,bT,bU⟩:=Nc (bK aK);grind[Rd.bk]
   grind
  subst aR;have ao:∀l∈h1,dX l=f:=λl S=>by grind[List.getElem_of_mem]
  let bi:au:=b.a.drew.alloc (.cells (ag++h1++u).toArray W);have bl:bi.heap[b.a.heap.size]?=h (.cells (ag++h1++u).toArray W (0,0)):=lZ b.a.drew _;have bB:bi.heap.size=b.a.heap.size+1:=Nx;obtain⟨aw,a9⟩:=bQ.ca (d:=d) (j_:=cn W i (.row b.a.heap.size bo) (k+1) (ag++h1)) (cr:=⟨L.v,[b.a.heap.size]⟩) (bi:=bi) Y J rfl y
   (λj v _=>iV b.a.drew _ v) (λj v=>by grind)
   ⟨λe=>if e=b.a.heap.size then h (.cells (ag++h1++u).toArray W (0,0))else q,⟨az.1,λl S=>by grind,by grind,V,f3,u,by omega,rfl⟩,λj t v=>by grind,λj=>by by_cases br:j=b.a.heap.size<;>simp[br]⟩ a a a
  refine⟨.row b.a.heap.size bo,.value (.slice (h ⟨b.a.heap.size,0,q⟩) (k+1) bo),_,_,?_,.inl a,Rd.val a,aw,a9,?_⟩
  .rw[li Z,aj,aP];simp[cK,d9];exact hz
  grind[li,jq]
 cases bP with
 |nil x=>
  obtain⟨_,_,_,rfl,_⟩:=az;refine mk b.u x 0 a E (by have:=bQ.d_;omega) (λ_ _ _ C=>C) Rd.dL (λC=>C)
 |row j cap=>
  obtain⟨u,bI,an,bf⟩:=az.lookup;obtain⟨aQ,_,_,r,ah,_⟩:=az;have H:=(aH j).2 M;have a7:=bL j _ an;have ae:=aD j H;have bd:=bQ.lt L a' j H;have aI:∀t g,ag[t]?=h g->b.a.cell? ⟨j,t,q⟩=h g:=by intro t g Z;simp[aL,a7];grind
  obtain⟨aB,ak⟩:=bQ.fy (j:=j) (B:=ag) ae aI;have ad:∀{I:Array aT},dx {b with u:=λe t=>if e=j then ag[t]? else b.u e t} I->dx b I:=λbg=>
   bg.gM (j:=j) a' H ak λe t g aj=>by grind
  have aF:=Rd.kr (bE:=λe t=>if e=j then ag[t]? else b.u e t) (j:=j) (cap:=cap) (ag:=ag) bM ba r ah (λt=>by simp);by_cases a4:k+1<=cap
  .have a3:Rd ({b with u:=λe t=>if e=j then ag[t]? else b.u e t}:a6).u (aA.eval X) (.S sa a5.size 1 dM):=by rw[aa];exact R.mono ak
   obtain⟨A,O,V⟩:=D7 (P:=P) (b:={b with u:=λe t=>if e=j then ag[t]? else b.u e t}) (ty:=t.type) (k:=k) (j:=j) (cap:=cap) w z a2 G C.elem aB a7 M a3 a4;have f6:=Cj (P:=P) (b:=b) (ty:=t.type) (k:=k) (j:=j) (cap:=cap) w z a2 G C.elem bQ a7 M (l:=aA.eval X) (sa:=sa) (dM:=dM) M a4 a' H (λt _=>ae t);rw[aa]at O V;have aO:c A=i:=by have:=O.len;omega
   have bD:=O.bI 0 y;have aG:∀s,s<i->∃g,A[s]?=h g/\h1[s]?=h g/\dX g=f:=λs bh=>by obtain⟨g,a0,a1⟩:=O.rd 0 y s ((dM 0)[s]'y) (bK y);grind
   have bJ:A=h1:=m4;subst bJ;have ao:∀l∈A,dX l=f:=λl S=>by grind[List.getElem_of_mem]
   have bw:k*i+i<=cap*i:=by rw[<-o8];exact g5 _ a4
   have bH:i<=c u:=M;have bN:((ag++u).take (k*i)++A++(ag++u).drop (k*i+c A))=ag++A++u.drop i:=by rw[<-ba,aO];simp
   rw[bN]at V;have bm:(b.a.setRow j (ag++A++u.drop i).toArray).heap[j]?=h (.cells (ag++A++u.drop i).toArray W (0,0)):=setRow_heap b.a j _ _ W _ a7;have ar:∀e,e≠j->(b.a.setRow j (ag++A++u.drop i).toArray).heap[e]?=b.a.heap[e]?:=λe aX=>setRow_other b.a j e _ aX;obtain⟨aw,a9⟩:=bQ.ca (d:=d) (j_:=cn W i (.row j cap) (k+1) (ag++A)) (cr:=L) (bi:=b.a.setRow j (ag++A++u.drop i).toArray) Y J rfl E
    (λe aX bR=>ar e M) (λe aX=>.inl aX)
    ⟨λe=>if e=j then h (.cells (ag++A++u.drop i).toArray W (0,0))else q,⟨aQ,λl S=>by grind,by grind,a4,ah,u.drop i,by grind,rfl⟩,λe t aX=>by grind,λe=>by grind⟩ a a a
   refine⟨.row j cap,.value (.slice (h ⟨j,0,q⟩) (k+1) cap),_,_,?_,.inl a,Rd.val a,aw,a9,?_⟩
   .rw[li Z,aj];simp only[cK,d9,c0];exact hz
   rw[li Z,aj];exact jq f6
  exact mk _ (h ⟨j,0,q⟩) cap a y aB ak aF ad
def g.fv{i}(C:j9 P t l X W a5)(I:a5.size=i){w}(B:t.dst=h w)(J:t.guard=q)(M:fg D t.dst=f){bP}{ag}(K:bG F l=cN (c0 bP k))(j:n[d]?=h (.J (cn W i bP k ag))){s}{b:Nat->p N}(E:bG F X=ax (.S s i 1 b)){h1}(z:c h1=i)(A:∀y u (x:Nat) v,(b 0)[x]?=h v->Rd y u v->h1[x]?=h u/\dX u=f)(e:(k+1)*a5.bytes<=140737488355328)(o:∀a:fl,g r D bf (.ae all bt::ar) .normal ((w,cN (c0 a (k+1)))::F) (n.set d (.J (cn W i a (k+1) (ag++h1))))):g r D bf (.ae all (t::bt)::ar) .normal F n:=
 g.cF (ι:=fl) (λa=>cN (c0 a (k+1))) (λa=>n.set d (.J (cn W i a (k+1) (ag++h1)))) J M (.fv C I K j E z A e) λa=>by rw[B];exact o a
def g.jG(o)(W)(i){w}(J:look F o=ax (.S f w 0 T))(u:∀e:fl,g r D bf (.code s::ar) .normal ((o,cN (c0 e 0))::F) (n++[.J (cn W i e 0 [])])):g r D bf (.code s::ar) .normal F n:=by
 refine b0.e4 (λy K j b=>?_) u;have x:=j.aJ o;rw[J]at x;obtain⟨d,v,B,I,_,_,k,_,_⟩:=(b8 x).b1;have k:=k a;subst k;obtain⟨C,l⟩:=b.b0 (bX:=.J (cn W i (.nil d) 0 [])) (L:=⟨.nilFunc,[]⟩) (.refl _ _) rfl b ⟨λ_=>q,⟨rfl,by simp,by simp,rfl,rfl⟩,by simp,by simp,by simp⟩ E;refine⟨.nil d,{y with m:=y.m++[⟨.nilFunc,[]⟩]},rfl,⟨j.size,j.defers.imp λ_ p=>p.mono l.ext,λz=>?_⟩,C,l⟩;simp only[look];cases t:af o z with
 |false=>exact(j.aJ z).mono l.ext b.len
 |true=>
  have A:=dp t;subst A;show Rd _ _ _;rw[I];exact Rd.val a
def g.iL(o d){i}{bP}{ag}(t:Nat->p N)(ae:look F o=cN (c0 bP k))(w:n[d]?=h (.J (cn W i bP k ag)))(Z:∀E,E<k->c (t E)=i/\∀X M s V,(t E)[M]?=h s->ag[E*i+M]?=h V->Rd X V s)(K:g r D bf (.code s::ar) .normal ((o,ax (.S m i k t))::F) (n.set d .x)):g r D bf (.code s::ar) .normal F n:=by
 refine g.aU (λy aj C e=>?_) K;obtain⟨L,u,T,R,Q,ad,O,ai⟩:=cn.fK w t Z y e;have Y:=(cQ.1 w).1;have S:=C.aJ o;rw[ae]at S;have z:=Rd.bk S;have B:fm n y (n.set d .x) {y with u:=u}:=by
  refine⟨R,λl bX cr b lW=>?_⟩;by_cases v:d=l
  .subst v;rw[w]at b;cases b;exact⟨.x,cr,by grind,lW,a⟩
  exact Fc
 have x:cP n y (n.set d .x) {y with u:=u}:=by refine⟨bB _,λ_ _ _=>rfl,R,λA _ J ab=>Q A (J L (b_ T)) ab,λL aa A j=>.inr ⟨L,aa,j⟩,B.box,rfl,rfl,rfl,rfl⟩
 refine⟨{y with u:=u},rfl,⟨C.size,C.defers.imp λ_ I=>I.mono x.ext,λU=>?_⟩,⟨ad,by simp[e.len],?_,e.a3,e.lt,e.own⟩,x⟩
 .simp only[look];cases j:af o U with
  |false=>exact(C.aJ U).mono x.ext e.len
  |true=>
   have v:=dp j;subst v;show Rd _ _ _;grind
 intro l bX cr b lW;by_cases v:d=l
 .subst v;rw[ip Y]at b;cases b;trivial
 rw[kJ v]at b;exact(e.box l bX cr b lW).cd B e.len λA j=>⟨a,Q A λah=>v (e.a3 d l L cr T lW A ah j)⟩
end
structure ej(i k:Nat)(T:Nat->p N)(ag:p aa):Prop where
 len:c ag=k*i
 ep:∀e,e<k->c (T e)=i
 b6:∀e,e<k->∀w s,(T e)[w]?=h s->∃l,ag[e*i+w]?=h l/\∀bE,Rd bE l s
def ej.rd{i}{ag}(l:ej i k T ag):∀a,a<k->c (T a)=i/\∀bE e d j,(T a)[e]?=h d->ag[a*i+e]?=h j->Rd bE j d:=λa b=>
 ⟨l.ep a b,λbE e d j g p=>by obtain⟨r,n,o⟩:=l.b6 a b e d g;grind⟩
def MT(b:aa):O->O
 |.r 0 _ _ _=>.v b
 |a=>a
def EL(d:aa):E1->E1
 |.aq a=>.aq (MT d a)
 |b=>b
def EM(a:aa):p E1->p E1
 |[]=>[]
 |b::d=>EL a b::EM a d
def MU(b:aa):z->z
 |.q d=>.q (EL b d)
 |.Q a=>.Q (EM b a)
 |.any=>.any
def r3(d:Nat):O->Bool
 |.r 0 _ b _=>af b d
 |a=>nt a
def vG(d:Nat):E1->Bool
 |.aq a=>r3 d a
 |b=>vl b
def vH(a:Nat):p E1->Bool
 |[]=>f
 |b::d=>match vG a b with|true=>vH a d|false=>m
def DC(b:Nat):z->Bool
 |.q d=>vG b d
 |.Q a=>vH b a
 |.any=>f
section
variable {i:Nat}{L:Loc}
def aey(u:b.m[0]?=h L){e}(d:r3 k e=f)(j:cA [an.r W i k T] b ab e):cA ao az ab (MT L.v e):=by
 cases e with
 |c x=>exact vk d j
 |any=>exact j
 |r p v w n=>
  cases p with
  |zero=>
   obtain⟨t,_,g⟩:=j;have g:=g W i k T a;have s:=dp d;obtain⟨r,o,l⟩:=g.2 s.symm;rw[u]at o;cases o;show Rd _ _ _;rw[l];exact .val (l▸t.cell)
  |succ p=>simp[r3,nt]at d
 |ptr=>simp[r3,nt]at d
 |aR=>simp[r3,nt]at d
 |R=>simp[r3,nt]at d
def MW(g:b.m[0]?=h L){l}(d:vG k l=f)(e:ey [an.r W i k T] b ab l):ey ao az ab (EL L.v l):=by
 cases l with
 |aq j=>exact aey g d e
 |agg a=>exact C2 (l:=.agg a) d e
def MX(g:b.m[0]?=h L):∀{B:p aa}{a:p E1},vH k a=f->eU [an.r W i k T] b B a->eU ao az B (EM L.v a)
 |[],[],_,_=>trivial
 |[],_::_,_,d=>d.elim
 |_::_,[],_,d=>d.elim
 |n::B,l::a,e,d=>by
  simp[vH]at e;cases j:vG k l with
  |false=>grind
  |true=>simp[j]at e;exact⟨MW g j d.1,MX g e d.2⟩
def MV(d:b.m[0]?=h L){a}(e:DC k a=f)(g:bz [an.r W i k T] b ab a):bz ao az ab (MU L.v a):=by
 cases a with
 |q o=>exact MW d e g
 |Q n=>obtain⟨B,j,l⟩:=g;exact⟨B,j,MX d e l⟩
 |any=>trivial
end
def zv:p ResultVar->Bool
 |[]=>f
 |.tmp _::a=>zv a
 |.cell _ _::_=>m
def MY{P}{x}:∀{rs:p ResultVar},zv rs=f->∃B,(∀a,(rs.mapM (ie x)).run P a=Result.ok B a)/\dE P (rs.mapM (ie x))
 |[],_=>⟨[],by simp,by rw[List.mapM_nil];exact .pure⟩
 |.tmp i::g,e=>by
  obtain⟨B,b,d⟩:=MY (P:=P) (x:=x) (rs:=g) e;refine⟨x.tmps.getD i K::B,λa=>?_,?_⟩
  .simp only[o_,cK,ie,d9,c7,b]
  rw[o_];exact .bind .pure λ_=>.bind d λ_=>.pure
def mi.tmp{k}{fn}{hB}(s:mi P k hB ab b)(F:P.funcs[k]?=h fn)(C:zv fn.results.toList=f)(o:∀p t u,b.u p t=h u->b.a.cell? ⟨p,t,q⟩=h u):mi P k hB ab az:=by
 obtain⟨l,n,D,z,d,A,v⟩:=s;have g:d=fn:=M;subst g;let x:Act:={tmps:=hB.tmps,defers:=[]}
 obtain⟨B,k1,w⟩:=MY (P:=P) (x:=x) C;have i:∀a,(d.results.mapM (ie x)).run P a=Result.ok B.toArray a:=λa=>by grind[Array.mapM_eq_mapM_toList,Sem.run_map,Go.Result.andThen_ok]
 have e:∀a,(results d hB.tmps).run P a=.ok (if s:B.toArray.size=1 then B.toArray[0]else .tuple B.toArray) a:=λa=>by unfold results;rw[cK];refine(eM (λE=>Result.andThen E _) (i a)).trans ?_;simp
 have j:dE P (results d hB.tmps):=by
  unfold results;have g:dE P (d.results.mapM (ie x)):=by rw[w8];exact .map w
  exact .bind g λ_=>.pure
 have r:=(v b.a o).1;rw[e]at r;cases r;exact⟨l,n,D,z,d,A,λa _=>⟨e a,λg y=>by rw[j a #[]]at y;grind⟩⟩
def Z.thaw{aO:aj P}[aO.cb]{aT}{args}{res}{i}(A:Z aO aT args [] res [.r W i k T]){fn}(ak:P.funcs[aT]?=h fn)(ax:zv fn.results.toList=f)(bc:DC k res=f)(aN:∀x,x<k->c (T x)=i/\∀aQ∈T x,nu aQ=f):
  bl (ι:={S:fl×p aa // ej i k T S.2}) aO aT args [] (λS=>MU (c0 S.1.1 k) res) (λS=>[.J (cn W i S.1.1 k S.1.2)]):=by
 refine⟨A.1,λaB B a3 F br aS ae=>A.2 aB B a3 F br aS λX bk az au w b d=>?_⟩;have a9:aB.m=[]:=jI F.len;have a0:c az.m=1:=b.len;obtain⟨L,bb⟩:∃L,az.m=[L]:=by
  match aft:az.m with
  |[L]=>grind
  |[]=>grind
  |_::_::_=>grind
 have aP:az.m[0]?=h L:=M;obtain⟨ag,ah⟩:=b.box 0 _ L rfl aP;rcases ah with⟨⟨bf,aw⟩,o⟩|⟨j,cap,cells,ad,O,ai,bB⟩
 .subst aw;obtain⟨bd,cap,bn,a5,aV,bg,aA,_⟩:=o.b1;have G:cap=0:=aA a;subst G;let z:a6:={az with m:=[⟨.nilFunc,[]⟩]}
  have aW:eX az z:=⟨rfl,λ_ _ _ A=>A,λ_ _ _=>rfl,b.mem,λj D=>by grind⟩
  have aK:ej i 0 T []:=⟨by simp,λx s=>by omega,λx s=>by omega⟩
  refine .aU aW (ae ⟨(.nil bd,[]),aK⟩ X bk z (au.tmp ak ax b.mem) ?_ ?_ ?_)
  .have:=MV (ao:=[an.J (cn W i (.nil bd) 0 [])]) (az:=z) aP bc w;rw[a5]at this;exact this
  .refine⟨b.mem,a,λK aM n aE e=>?_,?_,by grind,λj D=>⟨(b.own j D).1,by grind⟩⟩
   .cases K with
    |zero=>cases aE;cases e;exact⟨λ_=>q,⟨a,by simp,by simp,a,a⟩,by simp,by simp,by simp⟩
    |succ K=>grind
   grind
  refine⟨d.size,d.a7,d.mem,d.bC,λn e j D=>?_,λK aM n aE=>by grind,d.os,d.tape,d.output,d.own⟩;grind
 .subst ad;have a':j∈(⟨.slice (h ⟨j,0,q⟩) k cap,[j]⟩:Loc).al:=E;have aI:aB.a.heap.size<=j:=by
   rcases d.bU _ M j a' with Y|⟨bp,Y,_⟩
   .exact Y
   grind
  have aU:j<az.a.heap.size:=b.lt _ M j a';obtain⟨bx,aR,C,bs,bj,bq,_,ab,a1⟩:=ag.b1;cases bs;have ba:c C=k*i:=ab.len;have a7:∀v U,C[v]?=h U->cells[v]?=h U:=λv U J=>by obtain⟨bz,a_,aH,bw⟩:=a1 v U J;cases aH;have:=b.mem _ _ _ bw;simp[aL,O]at this;simpa using this
  have bh:k*i<=c cells:=by rw[ai];exact g5 _ bj
  have aJ:cells.take (k*i)=C:=m4;have a4:C++cells.drop (k*i)=cells:=FP;have aK:ej i k T C:=by refine⟨ba,λx s=>(aN x s).1,λx s bA aQ I=>?_⟩;obtain⟨U,R,aF⟩:=ab.rd x s bA aQ I;grind[vk]
  have H:∀aG∈C,dX aG=f:=λaG a8=>by
   obtain⟨v,J,rfl⟩:=hl a8;have aX:0<i:=M;have s:v / i<k:=su M;have bt:v / i*i+v % i=v:=uC v i;have I:v % i<c (T (v / i)):=by rw[(aN _ s).1];exact p' _ aX
   obtain⟨U,R,aF⟩:=aK.b6 _ s _ _ (bK I);rw[bt,bK J]at R;cases R;exact(aF aB.u).cell
  have bo:∀g t l,aB.u g t=h l->g≠j:=λg t l av aH=>by have:=F.block av;omega
  let V:Mem:=λg t=>if g=j then q else az.u g t;let Q:a6:={az with m:=[],own:=λaG=>az.own aG∨aG=j}
  let aD:a6:={Q with u:=V}
  let z:a6:={az with m:=[⟨.nilFunc,[j]⟩],u:=V}
  have N:∀g t l,V g t=h l->az.u g t=h l:=λg t l r=>by grind
  have ar:eX az Q:=⟨rfl,λ_ _ _ A=>A,λ_ _ _=>rfl,b.mem,λg u=>by
   rcases u with(u|u)|⟨n,e,_⟩
   .grind
   .exact .inr ⟨_,by rw[bb];simp;rfl,by grind⟩
   grind⟩
  have aq:nZ Q aD:=⟨rfl,rfl,rfl,N,λg t l r=>by grind⟩
  have bu:eX aD z:=⟨rfl,λ_ _ _ A=>A,λ_ _ _=>rfl,λg t l r=>b.mem _ _ _ (N _ _ _ r),λg u=>by grind⟩
  refine .aU ar (.b2 aj.cb.ok aq (.aU bu (ae ⟨(.row j cap,C),aK⟩ X bk z (au.tmp ak ax b.mem) ?_ ?_ ?_)))
  .exact MV (L:=⟨.slice (h ⟨j,0,q⟩) k cap,[j]⟩) aP bc w
  .refine⟨λg t l r=>b.mem _ _ _ (N _ _ _ r),a,λK aM n aE e=>?_,?_,λn e g u=>?_,λg u=>⟨(b.own g u).1,λn e=>?_⟩⟩
   .cases K with
    |zero=>
     cases aE;cases e;refine⟨λg=>if g=j then h (.cells (C++cells.drop (k*i)).toArray W (0,0))else q,⟨a,H,ba,bj,bq,cells.drop (k*i),M,a⟩,λg t u=>M,λg=>?_,λg u t=>?_⟩
     .by_cases aH:g=j<;>simp[aH]
     grind
    |succ K=>grind
   .grind
   .grind
   simp[z]at e;subst e;have:=(b.own g u).2 _ (by rw[bb];simp;rfl);grind
  refine⟨d.size,d.a7,λg t l r=>?_,λg u a2 t=>?_,λn e g u=>?_,λK aM n aE=>by grind,d.os,d.tape,d.output,d.own⟩
  .simp only[z,V,bm (bo g t l r)];exact d.mem _ _ _ r
  .have:g≠j:=y;simp[z,V,bm this];exact d.bC g u a2 t
  grind
section
variable {r:aj P}
def g.iY{d:Prop}(j:∀b,bc n b->d)(k:d->g r D bf (.code s::ar) .normal F n):g r D bf (.code s::ar) .normal F n:=
 λb e i a=>k (j b a) b e i a
def g.fC{d:Prop}(j:∀b,bc n b->d)(k:d->g r D bf (.ae all bt::ar) .normal F n):g r D bf (.ae all bt::ar) .normal F n:=
 λb e i a=>k (j b a) b e i a
def cn.len{W}{l e d:Nat}{bP}{ag}(g:n[d]?=h (.J (cn W l bP e ag)))(b)(bQ:bc n b):c ag=e*l/\e<=9223372036854775807/\(0<e->∃j a,bP=.row j a)/\∀i,bP=.nil i->e=0:=by
 have o:d<c b.m:=h2;obtain⟨p,k,_⟩:=bQ.box d _ _ g (bK o);cases bP with
 |nil i=>obtain⟨_,_,r,rfl,_⟩:=k;grind
 |row j a=>obtain⟨_,_,r,s,t,_⟩:=k;grind
def g.jv(aR:bn P ad)(E:Nat){e}{eL}{i}{bP}{ag}(cz:t.op=.call {callee:=.builtin .len,args:=#[l],argTypes:=du})(M:du[0]?=h o)(s:bZ ad o=h e)(I:e.desc=.slice eL)(O:bG F l=cN (c0 bP k))(u:n[E]?=h (.J (cn W i bP k ag)))(N:t.guard=q)(w:fg D t.dst=f)(v:g r D bf (.ae all bt::ar) .normal (gb t.dst (ax (.int .i64 k)) F) n):g r D bf (.ae all (t::bt)::ar) .normal F n:=by
 refine g.cF (ι:=Unit) (λ_=>ax (.int .i64 k)) (λ_=>n) N w (λp x J j=>?_) λ_=>v;obtain⟨_,z,_,K⟩:=cn.len u p j;have ae:=eN J l;rw[O]at ae;have ae:=Rd.bk ae;have A:=(aR o e s).run_underlying (Q:=p.a);rw[I]at A;have C:du[0]?=h o:=M;have y:∃d b,c0 bP k=.slice d k b:=by
  cases bP with
  |nil d=>rw[K d rfl];exact⟨d,0,a⟩
  |row R b=>exact⟨_,b,rfl⟩
 obtain⟨d,b,B⟩:=y;rw[B]at ae;refine⟨(),.value (.int .i64 k),p,.int .i64 k,Rc,.inl a,Rd.int cU,j,.refl _ _,?_⟩;have:(ac x.eval t).events P p.a #[]=#[]:=Rc;rw[this];exact .nil
def vj:p O->Bool
 |[]=>f
 |.c b::a=>match nu b with|true=>vj a|false=>m
 |_=>m
def na(B:p aa)(a:p O):Prop:=c B=c a/\∀(d:Nat)b,a[d]?=h (O.c b)->∃e,B[d]?=h e/\∀g,Rd g e b
theorem na.of{n}{b}:∀{B:p aa}{d:p O},vj d=f->bN n b B d->na B d
 |[],[],_,_=>⟨rfl,λj l e=>by grind⟩
 |[],_::_,_,g=>g.elim
 |_::_,[],_,g=>g.elim
 |s::B,.c t::d,e,g=>by
  simp[vj]at e;cases k:nu t with
  |false=>grind
  |true=>
   simp[k]at e;obtain⟨o,r⟩:=na.of e g.2;refine⟨by grind,λj l i=>?_⟩;cases j with
   |zero=>simp at i;subst i;exact⟨s,a,λu=>vk k g.1⟩
   |succ j=>grind
 |_::_,.ptr _ _::_,e,_=>by exact cU
 |_::_,.r _ _ _ _::_,e,_=>by exact cU
 |_::_,.aR _::_,e,_=>by exact cU
 |_::_,.R _ _::_,e,_=>by exact cU
 |_::_,.any::_,e,_=>by exact cU
theorem bN.gr{n}{b}:∀{B:p aa}{d:p O},bN n b B d->∀g∈B,AM.dX g=f
 |[],[],_,g,e=>by grind
 |[],_::_,a,_,_=>a.elim
 |_::_,[],a,_,_=>a.elim
 |j::B,i::d,a,g,e=>by
  rcases e4.1 e with rfl|e
  .exact cA.cell a.1
  exact bN.gr a.2 g e
def eB.eP(aR:bn P ad)(d){i cap}{ag}{new}{e}(ao:t.op=.store o l X)(Q:bZ ad o=h e)(R:bG F l=cN (.pointer (h ⟨j,off,q⟩)))(ae:my (bG F X)=h new)(V:c new=e.size)(O:vj new=f)(w:n[d]?=h (.J (cn W i (.row j cap) k ag)))(Y:off+c new<=c ag):
  eB P D t F n (ι:={B:p aa // na B new}) (λ_=>.any) (λB=>n.set d (.J (cn W i (.row j cap) k (ag.take off++B.1++ag.drop (off+c B.1))))):=by
 intro s u J bQ;have x:=eN J l;rw[R]at x;have x:=Rd.bk x;have N:=u0 ae (eN J X);have U:d<c n:=(cQ.1 w).1;have aA:d<c s.m:=h2;have S:=bK aA;generalize s.m[d]=L at S;obtain⟨aH,C,aL,aE,I⟩:=bQ.box d _ L w S;obtain⟨r,aw,aN,T⟩:=cn.lookup C;obtain⟨aF,aO,av,G,aD,_⟩:=C;have ak:j∈L.al:=(aE j).2 M;have ah:=aL j _ aN;let B:=(u.eval X).cells.toList;have an:na B new:=na.of O N;have au:c B=c new:=an.1;have ax:off+0+c B<=(ag++r).toArray.size:=M;have aj:=run_storeCells_at P j off W B 0 (ag++r).toArray s.a ah ax N.cell;simp only[ki]at aj;have az:(ag++r).take off++B++(ag++r).drop (off+c B)=(ag.take off++B++ag.drop (off+c B))++r:=M;rw[az]at aj;have ab:c (ag.take off++B++ag.drop (off+c B))=c ag:=M;have Z:=setRow_heap s.a j (ag++r).toArray ((ag.take off++B++ag.drop (off+c B))++r).toArray W (0,0) ah;have z:∀g,g≠j->(s.a.setRow j ((ag.take off++B++ag.drop (off+c B))++r).toArray).heap[g]?=s.a.heap[g]?:=λg A=>setRow_other s.a j g _ A;obtain⟨ai,t2⟩:=bQ.ca (d:=d) (j_:=cn W i (.row j cap) k (ag.take off++B++ag.drop (off+c B))) (cr:=L) (bi:=s.a.setRow j ((ag.take off++B++ag.drop (off+c B))++r).toArray) w S rfl E
  (λg A aK=>z g M) (λg A=>.inl A)
  ⟨λg=>if g=j then h (.cells ((ag.take off++B++ag.drop (off+c B))++r).toArray W (0,0))else q,⟨aF,λl R=>by grind[bN.gr],by grind,G,aD,r,by grind,rfl⟩,λg t A=>by simp_all,λg=>by simp_all⟩ a a a
 have H:(u.eval X).cells.size=e.size:=M;refine⟨⟨B,an⟩,.skip,_,K,?_,.inr ⟨a,a⟩,v,ai,t2,?_⟩
 .have ar:(storeCells ⟨j,off,q⟩ (u.eval X).cells.toList).run P s.a=_:=aj;simp[ac,ao,x,Instr.storeAt,Instr.sureAddr,storeVar,(aR o e Q).bc,H,ar]
 intro y b;have aI:ac u.eval t=(do storeVar o ⟨j,off,q⟩ (u.eval X);pure .skip):=by simp[ac,ao,x,Instr.storeAt,Instr.sureAddr]
 rw[aI]at b;have aB:y∈(storeCells ⟨j,off,q⟩ (u.eval X).cells.toList).events P s.a #[]:=by
  simp[storeVar,aG,(aR o e Q).bc,H,aJ,events_sizeOf,d_,hx,dn,cK,c7,Sem.events_pure]at b;generalize(storeCells ⟨j,off,q⟩ (u.eval X).cells.toList).run P s.a=aM at b;cases aM with
  |ok aQ bi=>simpa using b
  |halt l bi=>simpa using b
 rcases nm (u.eval X).cells.toList 0 (ag++r).toArray s.a #[] ah ax N.cell y aB with aq|⟨aP,_,_,rfl⟩
 .grind
 exact om (b_ S) ak (I j ak _)
def g.eP{ad}(aR:bn P ad)(d){o}{l X}{W}{i k j cap off}{ag}{new}{e}(x:t.op=.store o l X)(a:bZ ad o=h e)(z:bG F l=cN (.pointer (h ⟨j,off,q⟩)))(w:my (bG F X)=h new)(u:c new=e.size)(v:vj new=f)(b:n[d]?=h (.J (cn W i (.row j cap) k ag)))(s:off+c new<=c ag)(y:t.guard=q)(A:fg D t.dst=f)(p:∀B,na B new->g r D bf (.ae all bt::ar) .normal (gb t.dst .any F) (n.set d (.J (cn W i (.row j cap) k (ag.take off++B++ag.drop (off+c B)))))):g r D bf (.ae all (t::bt)::ar) .normal F n:=
 g.cF _ _ y A (eB.eP aR d x a z w u v b s) λB=>p B.1 B.2
def g.swap(e w){j k:aa->(Nat->Option Obj)->Prop}(au:e≠w)(y:n[e]?=h (.J j))(A:n[w]?=h (.J k))(K:∀T p,j T p->T=.nilFunc)(ak:∀T p,k T p->T=.nilFunc)(V:g r D bf (.code s::ar) .normal F ((n.set e (.J k)).set w (.J j))):g r D bf (.code s::ar) .normal F n:=by
 refine g.aU (λo ax Z bQ=>?_) V;have N:e<c n:=(cQ.1 y).1;have O:w<c n:=(cQ.1 A).1;have an:e<c o.m:=h2;have aq:w<c o.m:=h2;obtain⟨x,ad⟩:∃L,o.m[e]?=h L:=⟨_,bK an⟩;obtain⟨C,ag⟩:∃L,o.m[w]?=h L:=⟨_,bK aq⟩;have z:=bQ.box e _ x y ad;have ab:=bQ.box w _ C A ag;have aw:x.v=.nilFunc:=by obtain⟨p,G,_⟩:=z;grind
 have H:C.v=.nilFunc:=by obtain⟨p,G,_⟩:=ab;grind
 let l:a6:={o with m:=(o.m.set e C).set w x}
 have ae:∀b,((n.set e (.J k)).set w (.J j))[b]?=if b=w then h (.J j)else if b=e then h (.J k)else n[b]?:=λb=>by grind
 have W:∀b,l.m[b]?=if b=w then h x else if b=e then h C else o.m[b]?:=λb=>by grind
 have Y:∀L∈l.m,L∈o.m:=λL i=>by grind
 have t:fm n o ((n.set e (.J k)).set w (.J j)) l:=by
  refine⟨λ_ _ _ J=>J,λb U L aE i=>?_⟩;rw[ae,W];by_cases v:b=w
  .subst v;rw[A]at aE;cases aE;rw[ag]at i;cases i;exact⟨.J j,x,by simp,by simp,by show x.v=_;grind⟩
  by_cases Q:b=e
  .subst Q;rw[y]at aE;cases aE;rw[ad]at i;cases i;exact⟨.J k,C,by simp[v],by simp[v],by show C.v=_;grind⟩
  exact⟨U,L,by grind,by grind,.refl _ _⟩
 have X:cP n o ((n.set e (.J k)).set w (.J j)) l:=by exact⟨bB _,λ_ _ _=>rfl,λ_ _ _ J=>J,λ_ _ _ _=>rfl,λL J u d=>.inr ⟨L,Y L J,d⟩,t.box,rfl,rfl,rfl,rfl⟩
 refine⟨l,a,⟨Z.size,Z.defers.imp λ_ K=>K.mono t,λao=>(Z.aJ ao).mono t bQ.len⟩,⟨bQ.mem,by simp[l,bQ.len],?_,?_,λL i u d=>bQ.lt L (Y L i) u d,λu d=>⟨(bQ.own u d).1,λL i=>(bQ.own u d).2 L (Y L i)⟩⟩,X⟩
 .intro b U L aE i;rw[ae]at aE;rw[W]at i;split at aE
  .rename_i v;rw[bs v]at i;cases aE;cases i;exact z
  rename_i v;rw[bm v]at i;split at aE
  .rename_i Q;rw[bs Q]at i;cases aE;cases i;exact ab
  rename_i Q;rw[bm Q]at i;exact(bQ.box b U L aE i).cd t bQ.len λu d=>⟨a,λ_=>rfl⟩
 intro b B E I R S u d M;rw[W]at R S;have key:∀b L,(if b=w then h x else if b=e then h C else o.m[b]?)=h L->o.m[if b=w then e else if b=e then w else b]?=h L:=λb L az=>by grind
 have:=bQ.a3 _ _ E I (key b E R) (key B I S) u d M;by_cases ah:b=w<;>by_cases ai:B=w<;>by_cases aj:b=e<;>by_cases av:B=e<;>simp_all
def g.jD(aR:bn P ad){e}{H T}(aB:t.op=.makeSlice o l X)(ag:bZ ad o=h e)(aK:e.desc=.slice W)(Z:bZ ad W=h a5)(aj:bG F l=ax (.int H k))(ak:bG F X=ax (.int T k))(j:k*a5.bytes<=140737488355328)(aT:k<=140737488355328)(ae:t.guard=q)(ab:fg D t.dst=f)(ao:∀A d,g r D bf (.ae all bt::ar) .normal (gb t.dst (cN (c0 (.row A k) k)) F) (n++[.J (cn W a5.size (.row A k) k d)])):g r D bf (.ae all (t::bt)::ar) .normal F n:=by
 refine g.cF (ι:=Nat×p aa) (λw=>cN (c0 (.row w.1 k) k)) (λw=>n++[.J (cn W a5.size (.row w.1 k) k w.2)]) ae ab (λb U aA s=>?_) λw=>ao w.1 w.2;have J:=eN aA l;rw[aj]at J;have J:=b8 J;generalize aw:U.eval l=aL at J;cases J;have K:=eN aA X;rw[ak]at K;have K:=b8 K;generalize z:U.eval X=aM at K;cases K;have an:=(aR o e ag).eN;rw[aK]at an;obtain⟨B,R,S,aO,aP,az,br,aQ,aS⟩:=(aR W a5 Z).de;have C:(B.bytes:Int)*(k:Int)<=281474976710656:=M;have aG:=run_make (P:=P) (w:=b.a) o W B R an S az H T k k y (Int.le_refl _) C y;simp[c9]at aG;let d:=(madeCells R.cells (k*B.size)).toList;have G:c d=k*a5.size:=by grind[size_madeCells]
 have aD:∀I∈R.cells.toList,dX I=f:=bN.gr (uu (n:=n) (b:=b) br);have aF:c R.cells.toList=a5.size:=NL;have aI:∀I∈d,dX I=f:=by intro I ai;simp[d,madeCells,Array.toList_map,ho]at ai;grind[Nat.mod_lt]
 have aE:ew (n++[.J (cn W a5.size (.row b.a.heap.size k) k d)]) {b with a:=b.a.alloc (.cells d.toArray W),m:=b.m++[⟨.nilFunc,[b.a.heap.size]⟩]} (.J (cn W a5.size (.row b.a.heap.size k) k d)) ⟨.nilFunc,[b.a.heap.size]⟩:=by
  refine⟨λO=>if O=b.a.heap.size then h (.cells (d++[]).toArray W (0,0))else q,⟨a,aI,G,bB _,by omega,[],by grind,a⟩,λO t C=>?_,λO=>?_,λO C t=>?_⟩
  .by_cases u:O=b.a.heap.size
   .subst u;simp[dJ]at C;grind[lZ]
   grind
  .by_cases u:O=b.a.heap.size<;>simp[u]
  simp at C;subst C;cases v:b.u b.a.heap.size t with
  |none=>rfl
  |some I=>have:=s.block v;omega
 have N:bc n {b with a:=b.a.alloc (.cells d.toArray W)}/\cP n b n {b with a:=b.a.alloc (.cells d.toArray W)}:=
  s.c1 E (λA j=>iV b.a _ j) (λA j t=>rfl) (λA j t I v=>by have:=s.block v;omega) a a a
 obtain⟨V,Y⟩:=N.1.b0 N.2 rfl s aE (λA j=>by simp_all);refine⟨(b.a.heap.size,d),.value (.slice (h ⟨b.a.heap.size,0,q⟩) k k),_,_,?_,.inl a,Rd.val a,V,Y,?_⟩
 .simp[ac,aB,aw,z,aG,d]
 have u:ac U.eval t=(do pure (.value (<-Instr.makeSlice o (.int H k) (.int T k)))):=by simp[ac,aB,aw,z]
 rw[u];refine jq ?_;intro u x;have ah:∀i,(underlying o).run P i=.ok (.slice W) i:=λi=>by simp[underlying,an]
 have aH:∀i,(typeInfo W).run P i=.ok B i:=λi=>by simp[typeInfo,S]
 have L:∀i,(zeroValue W).run P i=.ok R i:=λi=>by simp[zeroValue,typeInfo,S,az]
 have aN:∀i,(sizeOf W).run P i=.ok B.size i:=λi=>by simp[sizeOf,typeInfo,S]
 have av:IntKind.i64.wrap (k:Int)=k:=by grind[IntKind.wrap_i64]
 have aq:¬(k:Int)<0:=y;have au:¬(281474976710656<(B.bytes:Int)*k):=y;simp[Instr.makeSlice,ah,aH,aN,asInt,asIntOf,av,aq,au]at x;rw[L]at x;simp[aJ,(dE.newRow (P:=P)) _ _,ite_self]at x;unfold askRoom at x;split at x
 .have:u=⟨.mark .noRoom,m,f⟩:=by simpa using x
  rw[this];exact .inl a
 simp at x
end
section
variable {i I:Nat}{bC:aa}
end
def YF{a B:p α}{b}(g:b+c B<=c a)(d):(a.take b++B++a.drop (b+c B))[d]?=if b<=d/\d<b+c B then B[d-b]? else a[d]?:=by have e:c (a.take b)=b:=M;grind
def ej.fi{i}{d:Nat->p N}{ag}{new}(l:ej i k T ag)(e w)(bq:e<k)(r:na B new)(D:w+c new<=i)(A:∀a,a<k->a≠e->d a=T a)(u:c (d e)=i)(o:∀b g,(d e)[b]?=h g->(w<=b/\b<w+c new/\new[b-w]?=h (O.c g))∨(¬(w<=b/\b<w+c new)/\(T e)[b]?=h g)):ej i k d (ag.take (e*i+w)++B++ag.drop (e*i+w+c B)):=by
 have J:e*i+i<=k*i:=FN;have I:=r.1;have E:=l.len;have s:e*i+w+c B<=c ag:=y;refine⟨by grind,λa j=>?_,λa j b g z=>?_⟩
 .by_cases n:a=e
  .grind
  rw[A a j n];exact l.ep a j
 rw[YF s];by_cases n:a=e
 .subst n;rcases o b g z with⟨cS,dq,C⟩|⟨cS,dq⟩
  .rw[bs y,show a*i+b-(a*i+w)=b-w by omega];exact r.2 _ g C
  rw[bm y];exact l.b6 a j b g dq
 have x:(T a)[b]?=h g:=M;have F:b<i:=by rw[<-l.ep a j];grind
 rw[bm ?_]
 .exact l.b6 a j b g x
 rcases Nat.lt_or_gt_of_ne n with v|t
 .have:a*i+i<=e*i:=by rw[<-o8];exact g5 _ v
  omega
 have:e*i+i<=a*i:=by rw[<-o8];exact g5 _ t
 omega
def ej.gJ{i}{a:Nat->p N}{ag}(g:ej i k T ag)(t:∀b,b<k->a b=T b)(u:c (a k)=i)(x:c B=i)(A:∀(d:Nat)e,(a k)[d]?=h e->∃n,B[d]?=h n/\∀o,Rd o n e):ej i (k+1) a (ag++B):=by
 have v:=g.len;refine⟨by grind,λb l=>?_,λb l d e z=>?_⟩
 .by_cases s:b=k
  .grind
  rw[t b y];exact g.ep b y
 by_cases s:b=k
 .grind
 have j:b<k:=y;have r:(T b)[d]?=h e:=M;have w:d<i:=by rw[<-g.ep b j];grind
 have:b*i+i<=k*i:=by rw[<-o8];exact g5 _ j
 rw[kb y];exact g.b6 b j d e r
def pD(b:p (Nat×bx))(a:bJ):p ResultVar->Option (p z)
 |[]=>h []
 |.tmp j::i=>match pD b a i with
  |some g=>h (look a j::g)
  |none=>q
 |.cell d j::i=>match pD b a i with
  |some g=>match look a d with
   |.q (.aq (.c (.O e)))=>match bZ b j with
    |some l=>match hi l (e.map O.c)with
     |some k=>h (.q k::g)
     |none=>q
    |none=>q
   |_=>q
  |none=>q
def D5{P}{ad}(aR:bn P ad){D}{n}{b}{F}{V}(ab:bY D n b F V):∀{S:p ResultVar}{d:p z},pD ad F S=h d ->
  ∃B,b6 n b B d/\∀Q,(∀j A T,b.u j A=h T->Q.cell? ⟨j,A,q⟩=h T)->(S.mapM (ie V)).run P Q=Result.ok B Q/\∀o,∀y∈(S.mapM (ie V)).events P Q o,y∈o∨∃j A T,y=⟨.cell ⟨j,A,q⟩,m,m⟩/\b.u j A=h T
 |[],d,l=>by cases l;exact⟨[],v,λQ _=>⟨by simp,λo y r=>.inl (by simpa using r)⟩⟩
 |.tmp x::ao,d,l=>by
  simp[pD]at l;cases W:pD ad F ao with
  |none=>grind
  |some aK=>
   simp[W]at l;subst l;obtain⟨B,ag,aN⟩:=D5 aR ab W;refine⟨V.tmps.getD x K::B,⟨ab.aJ x,ag⟩,λQ C=>?_⟩;obtain⟨k1,R⟩:=aN Q C;refine⟨by simp[o_,cK,ie,d9,c7,k1],λo y r=>R o y ?_⟩;simpa[o_,ie,k1]using r
 |.cell u x::ao,d,l=>by
  simp[pD]at l;cases W:pD ad F ao with
  |none=>grind
  |some aK=>
   simp[W]at l;have Z:=ab.aJ u;generalize look F u=aP at l Z;split at l
   case h_2=>cases l
   rename_i e;cases I:bZ ad x with
   |none=>grind
   |some t=>
    simp[I]at l;cases N:hi t (e.map O.c)with
    |none=>grind
    |some ah=>
     simp[N]at l;subst l;obtain⟨B,ag,aN⟩:=D5 aR ab W;have G:=b8 Z;generalize aF:V.tmps.getD u K=aM at G;cases G;rename_i j i X J av;let U:=(aC (c e)).map X;have H:bN n b U (e.map O.c):=by
      have key:∀k d,(∀g aa,d[g]?=h aa->Rd b.u (X (k+g)) aa)->bN n b ((aC (c d)).map λg=>X (k+g)) (d.map O.c):=by
       intro k d;induction d generalizing k with
       |nil=>intro _;trivial
       |cons aI d ak=>
        intro Y;rw[fp,wU];refine⟨Y 0 aI a,?_⟩;have:=ak (k+1) (λg aa w=>by have:=Y (g+1) aa M;grind);grind[Function.comp_def]
      have:=key 0 e M;grind
     have az:∀g s,U[g]?=h s->b.u j (i+g)=h s:=λg s w=>by
      simp[U,nf]at w;by_cases aw:g<c e
      .simp[aw]at w;subst w;exact J g e[g] (bK aw)
      grind
     let aO:au:={b.a with heap:=b.a.heap}
     have ax:∃s,ey n b s ah/\∀Q,(∀j A T,b.u j A=h T->Q.cell? ⟨j,A,q⟩=h T)->(loadVar x ⟨j,i,q⟩).run P Q=.ok s Q:=by
      have ae:=aR x t I;cases E:t.agg<;>simp[hi,E]at N
      .cases ar:c' 0 (e.map O.c)with
       |none=>grind
       |some aH=>
        simp[ar]at N;subst N;obtain⟨s,aj,aD⟩:=H.get (eo ar);refine⟨s,aD,λQ C=>?_⟩;have:=C _ _ _ (az 0 s aj);simp[loadVar,cK,ae.er,c7,E];grind[run_load]
      cases ar:m0 t.size (e.map O.c)with
      |none=>grind
      |some r0=>
       simp[ar]at N;subst N;obtain⟨an,aL⟩:=tV ar;have aq:=H.take t.size;rw[<-an]at aq;have ai:c (U.take t.size)=t.size:=M;refine⟨.agg (U.take t.size).toArray,⟨U.take t.size,a,aq⟩,λQ C=>?_⟩;have L:=run_loadCells_list (P:=P) Q ⟨j,i,q⟩ (U.take t.size) (λg s w=>by grind[gY]);rw[ai]at L;simp[loadVar,cK,ae.er,c7,E];simp[ae.bc,L]
     obtain⟨s,aB,aE⟩:=ax;refine⟨s::B,⟨aB,ag⟩,λQ C=>?_⟩;obtain⟨k1,R⟩:=aN Q C;have aA:(ie V (.cell u x))=loadVar x ⟨j,i,q⟩:=by simp[ie,aF,asAddr]
     refine⟨by grind[Go.Sem.run_bind,Go.Sem.run_pure,Go.Result.andThen_ok],λo y r=>?_⟩;rw[o_,aA]at r;simp[aG,aE Q C,aJ,k1,Sem.events_pure]at r;rcases R _ y r with r|r
     .rcases Dq r with r|r
      .grind
      obtain⟨g,w,rfl⟩:=pf (aR x t I) (Q:=Q) (k:=c e) (λg w=>⟨X g,C _ _ _ (J g e[g] (bK w))⟩) (by have:=sb N;grind) y r;exact .inr ⟨j,i+g,X g,a,J g e[g] (bK w)⟩
     grind
theorem o0.ff(aR:bn P ad){fn}{bh}{o}(u:pD ad F fn.results.toList=h bh)(l:pt bh=h o):o0 P fn F o:=by
 intro z A x g s;obtain⟨B,j,k⟩:=D5 aR s u;refine⟨_,Ka l j,λe t=>?_⟩;obtain⟨k1,v⟩:=k e t;have i:(fn.results.mapM (ie g)).run P e=Result.ok B.toArray e:=Rf;have r:∀a,∀d∈(fn.results.mapM (ie g)).events P e a,d∈a∨∃n p y,d=⟨.cell ⟨n,p,q⟩,m,m⟩/\x.u n p=h y:=by rw[w8];intro a d b;exact v a d (by simpa using b)
 constructor
 .unfold results;rw[cK];refine(eM (λw=>Result.andThen w _) (Eq.trans ?_ i)).trans ?_
  .congr 2
  simp
 intro d b;have C:d∈(fn.results.mapM (ie g)).events P e #[]:=by unfold results at b;rw[aG]at b;change d∈((fn.results.mapM (ie g)).run P e).evThen ((fn.results.mapM (ie g)).events P e #[]) _ at b;rw[i]at b;simpa using b
 grind
section
variable {r:aj P}
def tD(i:p (Nat×bx))(e:p ResultVar)(b:p Nat)(g:bJ)(a:z):Option (p Prop):=
 match pD i g e with
 |some d=>match pt d with
  |some j=>match hQ (c b) a with
   |true=>kt j (e' b a)
   |false=>q
  |none=>q
 |none=>q
def g.cu(aR:bn P ad){fn}{d}{res}(aP)(e:tD ad fn.results.toList aP F res=h Y)(o:U Y)(l:dz aP n=h ao)(k:l8 ao=f)(j:e_ aP=f)(i:∀b,b<d->aP[b]?=h b):
  g r D (k9 P fn d res ao) (.code .ret::ar) .normal F n:=by refine g.ret ⟨.inl a,aP,?_⟩;unfold tD at e;grind[o0.ff]
def Z.bG{j}{fn}{args}{res}(i:P.funcs[j]?=h fn)(e:(fn.name== "runtime.NumGoroutine")=m)(d:fn.body=h s)(l:ay args.length fn.ntmps=f)(o:kF args n->g r fn.ntmps (k9 P fn n.length res ao) [.code s] .normal (h6 0 args) n):Z r j args n res ao:=by refine⟨⟨fn,i,e,by grind⟩,λk B b a=>?_⟩;have:=bl.hn (r:=r) (ι:=Unit) (ao:=λ_=>ao) (res:=λ_=>res) i e d (ff l) (b0.mono (g.aW (o ⟨k,B,b,a⟩)) λ_ _ _ p=>⟨(),p⟩);exact this.toZ.2 k B b a
def bW.mk{fn}{d}{res}(aP)(e:pE fn.results.toList aP F res=h Y)(l:U Y)(k:dz aP n=h ao)(j:l8 ao=f)(i:e_ aP=f)(g:∀b,b<d->aP[b]?=h b):bW fn d res ao .ret F n:=by refine⟨.inl a,aP,?_⟩;unfold pE at e;grind
end
def Gx{u:aj P}{j:aK}{i}{x}{bt}{E}(I:j.kind≠.early)(o:aD[e]?=h t)(W:aU t (yielded aD x.tmps)=f)(F:bc n b)(S:∀v,(ac x.eval t).run P v=.ok (.enter E B.toArray) v)(R:∀v,(ac x.eval t).events P v #[]=#[])(V:bl u E cV n res aM)(K:b6 n b B cV)(M:∀l r g,bz (aM l) g r (res l)->bc (aM l) g->dg n b (aM l) g->cd u br (G (j.M (x.put t.dst r) (.inRegion aD bt::i)) ah) g):
  cd u br (G (j.M x (.inRegion aD (e::bt)::i)) ah) b:=by
 obtain⟨_,Q⟩:=V;refine .next a λD U=>?_;have C:=u.bN U;have z:=F.rely C;have J:b6 n D B cV:=K.mono C.aQ.ext F.len;refine⟨_,D,_,tJ o W I (S D.a),?_,Q _ B J z br _ λl N r T y k d p=>?_⟩
 .refine⟨⟨n,n,z,z,.refl _ _⟩,dx.seen ?_⟩;rw[R];exact .nil
 refine uN (ah:=ah) (s:=j.M x (.inRegion aD (e::bt)::i)) d y λO w=>?_;have A:=qu (j:=j) (x:=x) (i:=i) aD e bt r;rw[o]at A;simp only[n6]at A;rw[A];exact M l r O (k.mono w.aQ.ext d.len) (d.rely w) (C.aQ.trans (p.trans w.aQ))
def g.cL{s:aj P}{V:a4}(Z:bl s V cV n res aM)(aH:t.guard=q)(o:t.op=.call {callee:=.value cR,args:=ag,argTypes:=du})(r:gZ (bG F cR)=h (V,cap))(aA:l3 (ag.toList.map (bG F)++e7 cap) cV=h Y)(ah:U Y)(an:fg D t.dst=f)(az:∀d,g s D bf (.ae all bt::ar) .normal (gb t.dst (res d) F) (aM d)):g s D bf (.ae all (t::bt)::ar) .normal F n:=by
 intro ab S p e aq J v ao idx j a A;cases idx with
 |nil=>exact a.elim
 |cons aJ idx=>
 obtain⟨B,a⟩:=a;have aa:=eN p cR;unfold gZ at r;split at r
 case h_2=>cases r
 case h_1 vc uZ he=>
  cases r;rw[he]at aa;have W:=b8 aa;generalize G:S.eval cR=aw at W;cases W with
  |fn x b E l av w ax y aF K=>
   have z:x=[]:=jI E;subst z;have aB:b6 n ab b (e7 cap):=ql (λd au C=>⟨w d,y d M,K d au C⟩) l;have aE:b6 n ab (ag.toList.map S.eval++b) cV:=ti aA ah ((m' (eN p) ag.toList).append aB);obtain⟨fn,ad,X,T⟩:=Z.1;refine Gx j B (ja aH) e (λR=>(mU o ad X T G R).1) (λR=>(mU o ad X T G R).2) Z aE λd aK Q I k i=>?_;refine az d Q _ ?_ k aq J v ao idx j a λai O ak u aD L H ae=>A ai O ak u aD L H (i.trans ae);have N:=lf an;cases aI:t.dst with
   |none=>exact p.mono i e.len
   |some aG=>exact(p.mono i e.len).put (N aG aI) I
def L4{n:Type}{d}{l}:∀{a:p Nat}{e i:p n},dz a e=h i->d∉a->dz a (e.set d l)=h i
 |[],e,i,b,_=>b
 |o::a,e,i,b,j=>by
  simp[e4,not_or]at j;simp[dz,lk]at b⊢;rw[kJ j.1];cases g:e[o]? with
  |none=>simp[g]at b
  |some s=>
   simp[g]at b⊢;cases k:dz a e with
   |none=>simp[k]at b
   |some r=>rw[L4 k j.2];simp only[k]at b;exact b
def Kt{i}{d}(b:eg i d=m):i∉d:=λa=>by rw[vA a]at b;cases b
def yL:Option (Tmp×E1)->p ResultVar
 |none=>[]
 |some a=>[.tmp a.1]
def KO(a:p O):Option (Tmp×E1)->z
 |none=>.q (.agg a)
 |some b=>.Q [.agg a,b.2]
def uw(w:p (Nat×bx))(fn:Func)(x:Nat)(b:z)(i:p an):fw:=λt s d=>
 (t=.ret∨t=.normal)/\∃a n v e u k g j,∃o:Option (Tmp×E1),(∀r,o=h r->look s r.1=.q r.2)/\fn.results.toList=.cell u k::yL o/\bZ w k=h g/\g.agg=f/\c e=g.size/\look s u=aH n 0/\d[n]?=h (.cells v e)/\n∉a /\
  kt (KO e o) (e' a b)=h j/\U j/\hQ (c a) b=f/\dz a d=h i/\l8 i=f/\e_ a=f/\(∀l,l<x->a[l]?=h l)
def bl.jK{r:aj P}(aR:bn P ad){a3}{fn}{args}{ao:ι->p an}(rP:P.funcs[a3]?=h fn)(aO:(fn.name== "runtime.NumGoroutine")=m)(cW:fn.body=h s)(bR:args.length<=fn.ntmps)(a5:∀b b',bY fn.ntmps n b (h6 0 args) b'->bc n b->∀j cc S (a0:ak->a6->Prop),j.kind≠.early->j.roundOf=q ->
  (∀C ae I az a1,(∃u,uw ad fn (c n) (res u) (ao u) C ae I)->bY fn.ntmps I az ae a1->bc I az->dg n b I az->kO r a0 j cc S C a1 az)->cd r a0 (G (j.M b' (.code s::cc)) S) b):bl r a3 args n res ao:=by
 refine⟨⟨fn,rP,aO,by rw[cW];rfl⟩,λb B bT bP a0 S bL=>?_⟩;obtain⟨bQ,bO⟩:=b6.get bT;let j:aK:={fn:=a3,tmps:=#[],todo:=[],defers:=[],mode:=.run,kind:=.normal,roundOf:=q}
 have cg:Frame.enter P a3 B.toArray .normal=j.M {tmps:=B.toArray++Array.replicate (fn.ntmps-B.toArray.size) K,defers:=[]} [.code s]:=ND;rw[cg];refine a5 b {tmps:=B.toArray++Array.replicate (fn.ntmps-B.toArray.size) K,defers:=[]} ⟨by simp;omega,⟨[],v⟩,λaJ=>?_⟩ bP j [] S a0 (by simp[j]) rfl ?_
 .rw[yz];simp only[gX,dJ,sy];have:=bO aJ;rcases dZ aJ (c B) with cb|ca
  .have C:(B.toArray++Array.replicate (fn.ntmps-B.toArray.size) K).getD aJ K=(B[aJ]?).getD K:=FK;rw[C];exact this
  rw[wV y];trivial
 .rintro C ae aM e jG ⟨ai,V,aP,d,W,aI,aJ,ty,it,Y,t,bV,aV,aW,tx,DX,bW,bg,bX,bF,bG,bH,a7,a9,bI,cm⟩ b5 J bh;obtain⟨a8,a_⟩:=Lj a9;have O:=b5.aJ aJ;rw[bW]at O;obtain⟨_,L,dV,D,ba,aQ⟩:=O;obtain⟨ck,A,a',cj,b8,cn⟩:=J.box d _ L bg D;subst a';cases ba;let cf:Mem:=λz t=>if z=dV then A[t]? else e.u z t;have br:∀t w,A[t]?=h w->e.a.cell? ⟨dV,t,q⟩=h w:=λt w bS=>by simpa[aL,cj]using bS
  have aD:∀z t w,e.u z t=h w->cf z t=h w:=λz t w X=>by grind
  have av:∀z t w,cf z t=h w->e.a.cell? ⟨z,t,q⟩=h w:=λz t w X=>by
   by_cases C:z=dV
   .grind
   simp[cf,C,dn]at X;exact J.mem z t w X
  obtain⟨U,H⟩:=J.b' (cf:=cf) (bi:=e.a) (ec:=.x) (cr:=⟨.pointer (h ⟨dV,0,q⟩),[]⟩) bg D rfl (bB _) (λ_ _ _=>rfl) (λz _ aN t=>by grind) aD av E rfl rfl rfl v
  have aq:eX e ⟨e.m.set d ⟨.pointer (h ⟨dV,0,q⟩),[]⟩,cf,e.a,e.own⟩:=⟨rfl,aD,λz aN t=>by
   have:z≠dV:=by rintro rfl;exact aN _ (b_ D) E
   simp[cf,this,dn],av,λz aN=>by grind⟩
  have bD:bY fn.ntmps (aM.set d .x) ⟨e.m.set d ⟨.pointer (h ⟨dV,0,q⟩),[]⟩,cf,e.a,e.own⟩ ae jG:=⟨b5.size,b5.defers.imp λ_ bE=>bE.mono H.ext,λF=>(b5.aJ F).mono H.ext J.len⟩
  have ag:=L4 (l:=an.x) a7 bX;have aS:bN (aM.set d .x) ⟨e.m.set d ⟨.pointer (h ⟨dV,0,q⟩),[]⟩,cf,e.a,e.own⟩ A aI:=b8.mono H.ext J.len;have b1:=bh.trans (H.too5 J);let bq:aa:=match t with|none=>.agg A.toArray|some bf=>.tuple #[.agg A.toArray,jG.tmps.getD bf.1 K]
  have b7:∀Q,(∀j t F,cf j t=h F->Q.cell? ⟨j,t,q⟩=h F)->(results fn jG.tmps).run P Q=.ok bq Q/\∀C∈(results fn jG.tmps).events P Q #[],∃j t F,C=⟨.cell ⟨j,t,q⟩,m,m⟩/\cf j t=h F:=by
   intro Q aU;have bs:=aR ty it aW;have aG:c A=it.size:=by rw[b8.cN,DX]
   have au:∀u w,A[u]?=h w->Q.cell? ⟨dV,0+u,q⟩=h w:=λu w x=>aU _ _ _ M;have a:=run_loadCells_list (P:=P) Q ⟨dV,0,q⟩ A (λu w x=>by rw[gY];exact au u w x);rw[aG]at a;have aB:(loadVar ty ⟨dV,0,q⟩).run P Q=.ok (.agg A.toArray) Q:=by simp[loadVar,cK,bs.er,c7,tx];simp[bs.bc,a]
   have b9:fn.results=(ResultVar.cell aJ ty::yL t).toArray:=by apply Array.ext';simpa using aV
   have b4:asAddr (jG.tmps[aJ]?.getD K)=(pure ⟨dV,0,q⟩:Sem Addr):=by rw[<-hv,aQ];rfl
   refine⟨by cases t<;>simp[results,b9,b4,aB,bq,yL],λC V=>?_⟩;have bb:C∈(loadVar ty ⟨dV,0,q⟩).events P Q #[]:=by cases t<;>simpa[results,b9,b4,aB,yL]using V
   obtain⟨u,x,rfl⟩:=pf bs (Q:=Q) (k:=c A) (λu x=>⟨_,au u A[u] (bK x)⟩) (by rw[tx,aG];simp) C bb;exact⟨dV,0+u,A[u],rfl,by grind⟩
  have fin:∀o g,cX (⟨e.m.set d ⟨.pointer (h ⟨dV,0,q⟩),[]⟩,cf,e.a,e.own⟩:a6) g->o.fn=a3->o.tmps=jG.tmps->o.defers=jG.defers->o.mode=.returning->o.kind=.normal->cd r a0 (G o S) g:=by
   intro o g i bw bx bA a2 bC;have a4:=bD.rely i U;have aX:=U.rely i;have ab:=b1.trans i.aQ;have bZ:bz (aM.set d .x) g bq (KO aI t):=by
    have aF:=aS.mono i.aQ.ext U.len;cases t with
    |none=>exact⟨A,rfl,aF⟩
    |some bf=>
     have bd:=a4.aJ bf.1;rw[bV bf rfl]at bd;exact⟨[.agg A.toArray,jG.tmps.getD bf.1 K],rfl,⟨A,rfl,aF⟩,bd,v⟩
   obtain⟨ah,bp⟩:=vZ (kR:=g.m) ag aX.len;have b0:=(pu bF bG bZ).sub ag bp bH;obtain⟨cl,bu⟩:=l9 ag;obtain⟨d1,d2⟩:=l9 bp;have bt:∀L∈ah,L∈g.m:=Eb bp;have aw:bc (ao ai) {g with m:=ah}:=by obtain⟨T,_⟩:=aX.sub ag bp a8 bI;refine⟨T.mem,T.len,λu bo L aE D=>?_,T.a3,T.lt,λj cW=>⟨(aX.own j cW).1,λL D=>(aX.own j cW).2 L (bt L D)⟩⟩;exact ew.plain (n:=ao ai) (b:={g with m:=ah,own:=oK g ah}) (az:={g with m:=ah}) rfl rfl (vQ a8 bo (b_ aE)) (T.box u bo L aE D)
   have bj:dg n b (ao ai) {g with m:=ah}:=by refine⟨ab.size,ab.a7,ab.mem,ab.bC,λL D j cW=>ab.bU _ (bt L D) j cW,λd bo L aE D=>?_,ab.os,ab.tape,ab.output,ab.own⟩;have bQ:d<c n:=(cQ.1 aE).1;obtain⟨ec,cr,cp,cq,cu⟩:=ab.box d bo L aE D;grind
   obtain⟨bU,aA⟩:=a4.defers;refine A4 bU o g _ aX.d_ M a2 (by rw[bA];exact aA.gK aX) λZ R=>?_;have N:cX {g with m:=ah} {Z with m:=ah}:=by
    refine⟨rfl,R.u,R.own,R.size,λj cW=>R.a7 j (cW.imp id ?_),R.mem,R.os,R.tape,R.output⟩;rintro⟨L,D,cW⟩;obtain⟨u,x,rfl⟩:=hl D;have ax:u<c aP:=by rw[<-d1];exact x
    obtain⟨cv,bm,b3⟩:=d2 u _ (bK ax);obtain⟨l,b2,bk⟩:=bu u _ (bK ax);rw[bK x]at bm;cases bm;refine⟨_,_,b3,λbM=>?_,cW⟩;rw[aA.e7 _ bM]at bk;cases bk;exact vC a_ _ (b_ b2) rfl
   have bJ:eX Z {Z with m:=ah}:=⟨rfl,λ_ _ _ a5=>a5,λ_ _ _=>rfl,λj t w X=>R.mem j t w (by rw[<-R.u];exact X),λj cW=>cW.imp id λ⟨L,D,cW⟩=>⟨L,by rw[R.m];exact bt L D,cW⟩⟩
   have ar:g.u=cf:=i.u;refine .aU bJ (bL ai _ bq _ ⟨bw,a2,rfl,bC,fn,by grind,λQ aU=>?_⟩ (b0.mono N.aQ.ext aw.len) (aw.rely N) (bj.trans N.aQ));show(results fn o.tmps).run P Q=_/\∀C∈(results fn o.tmps).events P Q #[],_;rw[bx];have aH:∀j t F,cf j t=h F->Q.cell? ⟨j,t,q⟩=h F:=λj t F a5=>aU j t F (by show Z.u j t=h F;rw[R.u,ar];exact a5);refine⟨(b7 Q aH).1,λC V=>?_⟩;obtain⟨j,t,F,aV,aW⟩:=(b7 Q aH).2 C V;exact⟨j,t,F,aV,by show Z.u j t=h F;rw[R.u,ar];exact aW⟩
  rcases V with rfl|rfl
  .intro pre;exact .aU aq (.ctl U rfl (λ_=>Ef rfl) λg i=>fin _ g i rfl rfl (h5 _) rfl rfl)
  exact .aU aq (.ctl U rfl (λ_=>Ed rfl) λg i=>fin _ g i rfl rfl (h5 _) rfl rfl)
def bl.bG{r:aj P}(aR:bn P ad){j}{fn}{args}{ao:ι->p an}(u:P.funcs[j]?=h fn)(t:(fn.name== "runtime.NumGoroutine")=m)(b:fn.body=h s)(C:ay args.length fn.ntmps=f)(D:kF args n->g r fn.ntmps (λA w i=>∃v,uw ad fn n.length (res v) (ao v) A w i) [.code s] .normal (h6 0 args) n):bl r j args n res ao:=by refine⟨⟨fn,u,t,by rw[b];rfl⟩,λe B d a=>?_⟩;have:=bl.jK (r:=r) (ao:=ao) (res:=res) aR u t b (ff C) λI y j l z E k x o _ F=>(show b0 r fn.ntmps s _ (h6 0 args) n from g.aW (D ⟨e,B,d,a⟩)) I y j l z E k x o F;exact this.2 e B d a
def bN.set{n}{b}{j}{ab}:∀{B:p aa}{a:p O}{i:Nat},bN n b B a->B[i]?=h ab->cA n b ab j->bN n b B (a.set i j)
 |[],[],_,_,d,_=>by grind
 |[],_::_,_,d,_,_=>d.elim
 |_::_,[],_,d,_,_=>d.elim
 |l::B,k::a,0,d,e,g=>by simp at e;subst e;exact⟨g,d.2⟩
 |l::B,k::a,i+1,d,e,g=>⟨d.1,bN.set d.2 M g⟩
section
variable {r:aj P}
def g.cm(d w)(W i)(b:Nat->p N){eL}{ah}{gj}{au:Nat->p N}(A:c' d n=h (.cells eL ah))(x:c' w ah=h (.c (.S f gj 0 au)))(C:g r D bf (.code s::ar) .normal F ((n++[an.r W i 0 b]).set d (.cells eL (ah.set w (.r (c n) i 0 b))))):g r D bf (.code s::ar) .normal F n:=by
 refine g.aU (λe az K bQ=>?_) C;have aE:=eo A;have X:=eo x;have G:d<c n:=(cQ.1 aE).1;have ai:d<c e.m:=h2;have I:=bK ai;generalize e.m[d]=L at I;obtain⟨u,B,av,Z,S,U⟩:=bQ.box d _ L aE I;obtain⟨j,Y,V⟩:=S.get X;have k:Rd e.u j (.S f i 0 b):=(Rd.fV (i:=gj) (gj:=i) (.inr a) V).cD λR ad=>by omega
 have ao:ew (n++[an.r W i 0 b]) {e with m:=e.m++[⟨j,[]⟩]} (.r W i 0 b) ⟨j,[]⟩:=⟨k.eg,.inl ⟨⟨rfl,rfl⟩,k⟩⟩;obtain⟨H,O⟩:=bQ.b0 (.refl _ _) rfl bQ ao E
 have z:(n++[an.r W i 0 b])[d]?=h (.cells eL ah):=M;have ak:(e.m++[(⟨j,[]⟩:Loc)])[d]?=h L:=M;have ag:(e.m++[(⟨j,[]⟩:Loc)]).set d L=e.m++[⟨j,[]⟩]:=m4;have aw:fK (.cells eL ah) L (.cells eL (ah.set w (.r (c n) i 0 b))) L:=rfl;have ax:c n≠d:=y;have ab:ew ((n++[an.r W i 0 b]).set d (.cells eL (ah.set w (.r (c n) i 0 b)))) ⟨(e.m++[(⟨j,[]⟩:Loc)]).set d L,e.u,e.a,e.own⟩ (.cells eL (ah.set w (.r (c n) i 0 b))) L:=by
  rw[ag];refine⟨u,B,av,Z,?_,U⟩;have v:fm (n++[an.r W i 0 b]) {e with m:=e.m++[⟨j,[]⟩]} ((n++[an.r W i 0 b]).set d (.cells eL (ah.set w (.r (c n) i 0 b)))) {e with m:=e.m++[⟨j,[]⟩]}:=by
   refine⟨λ_ _ _ o=>o,λR bX cr Q lW=>?_⟩;by_cases aA:d=R
   .grind
   exact Fc
  have aa:bN (n++[an.r W i 0 b]) {e with m:=e.m++[⟨j,[]⟩]} B ah:=S.mono O.ext bQ.len;refine bN.set (aa.mono v H.len) Y ?_;refine⟨k.eg,by simp,λT ae aj kP o=>?_⟩;rw[kJ y,hn y,sE]at o;cases o;refine⟨bB _,λ_=>⟨⟨j,[]⟩,?_,a⟩⟩;exact ue
 obtain⟨aN,J⟩:=H.b' (cf:=e.u) (bi:=e.a) (cr:=L) z ak aw (bB _) (λ_ _ _=>rfl) (λ_ _ _ _=>rfl) (λ_ _ _ o=>o) bQ.mem (λu t=>⟨.inl t,bQ.lt L (b_ I) u t⟩) rfl rfl rfl ab;have l:=O.trans J;exact⟨⟨(e.m++[(⟨j,[]⟩:Loc)]).set d L,e.u,e.a,e.own⟩,a,⟨K.size,K.defers.imp λ_ k=>k.mono l.ext,λaq=>(K.aJ aq).mono l.ext bQ.len⟩,aN,l⟩
end
section
variable {r:aj P}
def g.fe(o)(W i)(dM:Nat->p N){e}{t:Nat->p N}(v:look F o=ax (.S f e 0 t))(j:g r D bf (.code s::ar) .normal ((o,cD (c n) (.S 0 i 0 0))::F) (n++[.h W i 0 dM])):g r D bf (.code s::ar) .normal F n:=by
 refine g.aU (λk w a bQ=>?_) j;have C:=a.aJ o;rw[v]at C;obtain⟨u,b⟩:=bQ.b0 (bX:=.h W i 0 dM) (L:=⟨.slice q 0 0,[]⟩) (.refl _ _) rfl bQ (.inl ⟨rfl,rfl⟩) E;refine⟨{k with m:=k.m++[⟨.slice q 0 0,[]⟩]},rfl,⟨a.size,a.defers.imp λ_ d=>d.mono b.ext,λl=>?_⟩,u,b⟩;simp only[look];cases cW:af o l with
 |false=>exact(a.aJ l).mono b.ext bQ.len
 |true=>
  exact QK
def g.ek(d w)(W i)(b:Nat->p N){eL}{ah}{A}{ai:Nat->p N}(y:c' d n=h (.cells eL ah))(x:c' w ah=h (.c (.S f A 0 ai)))(C:g r D bf (.code s::ar) .normal F ((n++[an.h W i 0 b]).set d (.cells eL (ah.set w (.R (c n) (.S 0 i 0 0)))))):g r D bf (.code s::ar) .normal F n:=by
 refine g.aU (λe aq J bQ=>?_) C;have aE:=eo y;have U:=eo x;have H:d<c n:=(cQ.1 aE).1;have ad:d<c e.m:=h2;have I:=bK ad;generalize e.m[d]=L at I;obtain⟨o,B,ak,X,O,R⟩:=bQ.box d _ L aE I;obtain⟨av,V,S⟩:=O.get U;let j:Loc:=⟨.slice q 0 0,[]⟩
 obtain⟨K,G⟩:=bQ.b0 (bX:=.h W i 0 b) (L:=j) (.refl _ _) rfl bQ (.inl ⟨rfl,rfl⟩) M;have Q:(n++[an.h W i 0 b])[d]?=h (.cells eL ah):=M;have ae:(e.m++[j])[d]?=h L:=M;have ab:(e.m++[j]).set d L=e.m++[j]:=m4;have z:fK (.cells eL ah) L (.cells eL (ah.set w (.R (c n) (.S 0 i 0 0)))) L:=rfl;have aa:ew ((n++[an.h W i 0 b]).set d (.cells eL (ah.set w (.R (c n) (.S 0 i 0 0))))) ⟨(e.m++[j]).set d L,e.u,e.a,e.own⟩ (.cells eL (ah.set w (.R (c n) (.S 0 i 0 0)))) L:=by
  rw[ab];refine⟨o,B,ak,X,?_,R⟩;have t:fm (n++[an.h W i 0 b]) {e with m:=e.m++[j]} ((n++[an.h W i 0 b]).set d (.cells eL (ah.set w (.R (c n) (.S 0 i 0 0))))) {e with m:=e.m++[j]}:=by
   refine⟨λ_ _ _ u=>u,λZ bX L ao aj=>?_⟩;by_cases au:d=Z
   .grind
   exact⟨bX,L,by grind,aj,.refl _ _⟩
  have Y:bN (n++[an.h W i 0 b]) {e with m:=e.m++[j]} B ah:=O.mono G.ext bQ.len;exact bN.set (Y.mono t K.len) V (Dy (W:=W) (T:=b) S M (by simp[<-bQ.len,j]))
 obtain⟨aN,E⟩:=K.b' (cf:=e.u) (bi:=e.a) (cr:=L) Q ae z (bB _) (λ_ _ _=>rfl) (λ_ _ _ _=>rfl) (λ_ _ _ u=>u) bQ.mem (λo l=>⟨.inl l,bQ.lt L (b_ I) o l⟩) rfl rfl rfl aa;have k:=G.trans E;exact⟨⟨(e.m++[j]).set d L,e.u,e.a,e.own⟩,a,⟨J.size,J.defers.imp λ_ v=>v.mono k.ext,λag=>(J.aJ ag).mono k.ext bQ.len⟩,aN,k⟩
end
def hF:Nat->(Nat->p N)->Nat->p N
 |0,a=>a
 |b+1,a=>fB (b+1) a
def yN(t)(a:Nat->p N)(e):hF t a e=a (t+e):=by cases t<;>simp[hF,fB]
def xH(i g k:Nat)(b:Nat->p N)(a:O):Option (O×p Prop):=match l2 i a with
 |true=>h (a,[])
 |false=>match a with
  |.R e (.S n d l j)=>match af e i,af d g with
   |true,f=>h (.c (.S m g j (hF l b)),[n=k,l+j<=k])
   |_,_=>q
  |_=>q
def xJ(g e i:Nat)(a:Nat->p N):p O->Option (p O×p Prop)
 |[]=>h ([],[])
 |j::n=>match xH g e i a j with
  |some (b,k)=>match xJ g e i a n with
   |some (d,l)=>h (b::d,gJ k l)
   |none=>q
  |none=>q
def u2(i g j:Nat)(b:Nat->p N):E1->Option (E1×p Prop)
 |.aq d=>match xH i g j b d with|some (d,e)=>h (.aq d,e)|none=>q
 |.agg a=>match xJ i g j b a with|some (a,e)=>h (.agg a,e)|none=>q
def xI(g e i:Nat)(a:Nat->p N):p E1->Option (p E1×p Prop)
 |[]=>h ([],[])
 |j::n=>match u2 g e i a j with
  |some (b,k)=>match xI g e i a n with
   |some (d,l)=>h (b::d,gJ k l)
   |none=>q
  |none=>q
def u1(i g j:Nat)(b:Nat->p N):z->Option (z×p Prop)
 |.q e=>match u2 i g j b e with|some (e,d)=>h (.q e,d)|none=>q
 |.Q a=>match xI i g j b a with|some (a,d)=>h (.Q a,d)|none=>q
 |.any=>h (.any,[])
section
variable {aM:p an}{b4:a6}{W i:Nat}
structure m6(aM:p an)(W i k:Nat)(T:Nat->p N)(b b4:a6):Prop where
 a7:∀ab x,cA (aM++[.h W i k T]) b ab x->l2 (c aM) x=f->cA aM b4 ab x
 e0:∀ab gj t A,cA (aM++[.h W i k T]) b ab (.R (c aM) (.S k gj t A))->gj=i->t+A<=k->Rd b4.u ab (.S m i A (hF t T))
def m6.cQ(n:m6 aM W i k T b b4){ab}{x j}{Y}(g:xH (c aM) i k T x=h (j,Y))(p:U Y)(o:cA (aM++[.h W i k T]) b ab x):cA aM b4 ab j:=by
 unfold xH at g;split at g
 .rename_i s;cases g;exact n.a7 ab x o s
 split at g
 .rename_i u C r t A _;split at g
  .rename_i d e;cases g;have d:=dp d;have e:=dp e;subst d e;obtain⟨rfl,l⟩:C=k/\t+A<=k:=p;exact n.e0 ab _ _ _ o a l
  grind
 grind
def m6.fx(n:m6 aM W i k T b b4):∀{B:p aa}{d a:p O}{e:p Prop},xJ (c aM) i k T d=h (a,e)->U e->bN (aM++[.h W i k T]) b B d->bN aM b4 B a
 |[],[],_,_,g,_,_=>by cases g;trivial
 |[],_::_,_,_,_,_,j=>j.elim
 |_::_,[],_,_,_,_,j=>j.elim
 |v::B,s::d,a,e,g,l,j=>by
  simp[xJ]at g;split at g
  .rename_i o t cS;split at g
   .rename_i r u dq;cases g;rw[U.Z]at l;exact⟨n.cQ cS l.1 j.1,n.fx dq l.2 j.2⟩
   grind
  grind
def m6.q(j:m6 aM W i k T b b4){l g}(a:u2 (c aM) i k T l=h (g,Y))(e:U Y)(n:ey (aM++[.h W i k T]) b ab l):ey aM b4 ab g:=by
 cases l with
 |aq t=>
  simp[u2]at a;split at a
  .rename_i d s cS;cases a;exact j.cQ cS e n
  grind
 |agg o=>
  simp[u2]at a;split at a
  .rename_i d s cS;cases a;obtain⟨B,r,p⟩:=n;exact⟨B,r,j.fx cS e p⟩
  grind
def m6.g8(n:m6 aM W i k T b b4):∀{B:p aa}{d a:p E1}{e:p Prop},xI (c aM) i k T d=h (a,e)->U e->eU (aM++[.h W i k T]) b B d->eU aM b4 B a
 |[],[],_,_,g,_,_=>by cases g;trivial
 |[],_::_,_,_,_,_,j=>j.elim
 |_::_,[],_,_,_,_,j=>j.elim
 |v::B,s::d,a,e,g,l,j=>by
  simp[xI]at g;split at g
  .rename_i o t cS;split at g
   .rename_i r u dq;cases g;rw[U.Z]at l;exact⟨n.q cS l.1 j.1,n.g8 dq l.2 j.2⟩
   grind
  grind
def m6.dc(g:m6 aM W i k T b b4){l s}(a:u1 (c aM) i k T l=h (s,Y))(e:U Y)(j:bz (aM++[.h W i k T]) b ab l):bz aM b4 ab s:=by
 cases l with
 |q l=>
  simp[u1]at a;split at a
  .rename_i d p cS;cases a;exact g.q cS e j
  grind
 |Q r=>
  simp[u1]at a;split at a
  .rename_i d p cS;cases a;obtain⟨B,o,n⟩:=j;exact⟨B,o,g.g8 cS e n⟩
  grind
 |any=>cases a;trivial
def bc.e0(n:bc (aM++[.h W i k T]) b)(aw:kr (c aM) aM=f):
  ∃x:a6,bc aM x/\eX b x/\m6 aM W i k T b x/\∀{t:p an} {R:a6},dg t R (aM++[.h W i k T]) b->t.length<=c aM->dg t R aM x:=by
 have aE:(aM++[an.h W i k T])[c aM]?=h (.h W i k T):=E;have G:c b.m=c aM+1:=by rw[n.len];simp
 have X:b.m[c aM]?=h b.m[c aM]:=bK y;generalize b.m[c aM]=L at X;have aJ:=n.box _ _ L aE X;obtain⟨cf,ak,N,z,aB⟩:∃cf:Mem,(∀j d g,b.u j d=h g->cf j d=h g)/\(∀j,j∉L.al->∀d,cf j d=b.u j d)/\(∀j d g,cf j d=h g->b.a.cell? ⟨j,d,q⟩=h g) /\
   (∀g e d A,cA (aM++[.h W i k T]) b g (.R (c aM) (.S k e d A))->e=i->d+A<=k->Rd cf g (.S m i A (hF d T))):=by
  rcases aJ with⟨rfl,rfl⟩|⟨j,aD,B,aP,rfl,br,aR,ad,D,H,aH⟩
  .refine⟨b.u,λ_ _ _ aG=>aG,λ_ _ _=>rfl,n.mem,λg e d A Q F aa=>?_⟩;obtain⟨ae,⟨ar,Z,S,aD,I,U,ab,aA,av,ax⟩,_,ao⟩:=Q;grind[Rd.dL]
  let cf:Mem:=λs d=>if s=j then B[d]? else b.u s d;have aq:∀s d g,b.u s d=h g->cf s d=h g:=λs d g I=>by grind
  refine⟨cf,aq,λs aQ d=>M,λs d g I=>?_,λg e d A Q F aa=>?_⟩
  .by_cases F:s=j
   .subst F;simp[cf,dJ]at I;simp[aL,br];grind
   simp[cf,F,dn]at I;exact n.mem s d g I
  subst F;obtain⟨ae,⟨ar,Z,S,aF,I,U,ab,aA,av,ax⟩,_,ao⟩:=Q;obtain⟨cr,Y,au⟩:=(ao _ _ _ _ aE).2 rfl;rw[X]at Y;cases Y;rw[av]at au;cases au;rw[I];have O:∀r,r<A->∀w C,(hF d T r)[w]?=h C->∃ai,B[(d+r)*e+w]?=h ai/\Rd b.u ai C:=λr u w C o=>by rw[yN]at o;exact H.rd (d+r) y w C o
  refine .S j (d*e) (λr w=>(B[(d+r)*e+w]?).getD K) U y E (λr u=>by rw[yN];exact H.bI _ y) (λaI=>M) (λr u w C o=>M) (λr u w C o=>?_);obtain⟨ai,az,aN⟩:=O r u w C o;rw[az];exact aN.mono aq
 have aK:(aM++[an.h W i k T]).set (c aM) .x=aM++[.x]:=E;obtain⟨aj,J⟩:=n.b' (cf:=cf) (bi:=b.a) (ec:=.x) (cr:=⟨L.v,[]⟩) aE X v (bB _) (λ_ _ _=>rfl) (λj _ l d=>N j l d) ak z E rfl rfl rfl v;rw[aK]at aj J;have ag:=aj.drop (bt:=[.x]) aw;refine⟨_,ag,⟨a,ak,λj l d=>N j (l L (b_ X)) d,z,λj l=>?_⟩,⟨λg ar Q aO=>?_,λg e d A Q F aa=>aB g e d A Q F aa⟩,λ{t R} ah V=>(ah.trans (J.too5 n)).drop (bt:=[.x]) V⟩
 .rcases l with l|⟨cr,Y,l⟩
  .exact .inl l
  have:=gV Y;grind
 exact(Q.mono J.ext n.len).drop (bt:=[.x]) aO
end
def bl.bQ{C:aj P}{D}{args}{b:ι->z}{aM:ι->p an}{W i}{k:ι->Nat}{T:ι->Nat->p N}(E:bl C D args n res (λa=>aM a++[.h W i (k a) (T a)])){j:ι->p Prop}(M:∀a,u1 (c (aM a)) i (k a) (T a) (res a)=h (b a,j a))(K:∀a,U (j a))(J:∀a,kr (c (aM a)) (aM a)=f)(I:∀a,c n<=c (aM a)):bl C D args n b aM:=by refine⟨E.1,λO B x v F s u=>E.2 O B x v F s λa t R Q w d g A=>?_⟩;obtain⟨y,l,e,o,r⟩:=g.e0 (J a);exact .aU e (u a t R y (w.mono e.mem) (o.dc (M a) (K a) d) l (r A (I a)))
def Z.bQ{P:aI}{b:aj P}{d}{args}{n}{res a}{aM}{W i k}{T:Nat->p N}(o:Z b d args n res (aM++[.h W i k T])){Y}(l:u1 (c aM) i k T res=h (a,Y))(j:U Y)(g:kr (c aM) aM=f)(e:c n<=c aM):Z b d args n a aM:=
 (bl.bQ (ι:=Unit) o.tocH (λ_=>l) (λ_=>j) (λ_=>g) (λ_=>e)).toZ
section
def X3(u:t.op=.call {callee:=.builtin .clear,args:=#[l],argTypes:=#[o]})(a:aA->aa):
  ac a t=(do pure (.value (<-Builtin.clear_ #[o] t.type #[a l]))):=Rt
def aff{a:aa}{b}{i}(l:a.cells.toList.map lJ=b.map h)(e:c b=i):e2 bE i A (λ_=>b) (Builtin.zeroCells a.cells A).toList:=by
 have k:a.cells.size=i:=by have:=eM List.length l;grind
 have s:bN [] ⟨[],bE,default,λ_=>False⟩ a.cells.toList (b.map O.c):=uu l;refine⟨by simp[Builtin.zeroCells,k],λ_ _=>e,λg d w o B=>?_⟩;have v:w<i:=M;obtain⟨j,u,t⟩:=s.get (w:=w) (x:=O.c o) M;refine⟨j,?_,t⟩;have r:g*i+w<A*i:=by
  have:g*i+i<=A*i:=by rw[<-o8];exact g5 i d
  omega
 have n:(g*i+w) % i=w:=by grind[Nat.add_mul_mod_self_right,Nat.mod_eq_of_lt]
 have z:w<a.cells.size:=y;have C:a.cells[w]=j:=M;have p:a.cells[w]! = j:=M;simp[Builtin.zeroCells,k,r,n,p]
def a1.eX(aR:bn P ad)(aS:t.op=.call {callee:=.builtin .clear,args:=#[l],argTypes:=#[o]}){e}(U:bZ ad o=h e)(aM:e.desc=.slice W)(R:bZ ad W=h a5){b}{z}(aa:η l=cD d (.S k a5.size b A))(s:n[d]?=h (.h z a5.size k T))(an:b+A<=k):
  a1 P t η n .any (n.set d (.h z a5.size k (nR b (b+A) a5.zero T))):=by
 intro u ak r X;have p:=X l;rw[aa]at p;change cA n u (ak l) (.R d _)at p;obtain⟨aU,⟨aw,aO,az,aQ,Z,aB,aD,aE,aN,aK⟩,_,G⟩:=p;obtain⟨L,J,ag⟩:=(G _ _ _ _ s).2 rfl;rw[aN]at ag;have C:=(aR o e U).eN;rw[aM]at C;rw[X3 aS,Z];by_cases V:A=0
 .subst V;have ab:nR b (b+0) a5.zero T=T:=by funext w;simp only[nR];grind
  have Y:n.set d (.h z a5.size k T)=n:=m4;rw[ab,Y];refine⟨.value (.tuple #[]),u,?_,v,r,.refl _ _,?_⟩
  .cases aw<;>simp[Builtin.clear_,run_underlying C]
  intro j g;cases aw<;>simp[Builtin.clear_,run_underlying C,aG]at g
 obtain⟨ax,rfl,rfl⟩:=aK y;rcases r.box d _ L s J with⟨_,rfl⟩|⟨aP,g7,B,F,rfl,K,aJ,ar,aL,av,ao⟩
 .cases ag
 cases ag;obtain⟨aI,i,au,aW,aX,aq,ai,a0,aj⟩:=(aR W a5 R).de;have ae:=aff (bE:=u.u) (A:=A) ai aj;have a2:=ae.len;have aH:=av.len;have aT:b*a5.size+A*a5.size<=k*a5.size:=by rw[<-jL];exact g5 _ an
 have D:=av.hX ae an;have S:(λe=>if b<=e/\e<b+A then(λ_=>a5.zero) (e-b)else T e)=nR b (b+A) a5.zero T:=rfl;rw[S]at D;obtain⟨ah,a⟩:=r.gE s J aJ ar aL K D M ao;have aA:=ae.cell;have Q:=run_storeCells_at P ax (b*a5.size) z (Builtin.zeroCells i.cells A).toList 0 (B++F).toArray u.a K M aA;have N:((B++F).toArray.toList.take (b*a5.size+0)++(Builtin.zeroCells i.cells A).toList++(B++F).toArray.toList.drop (b*a5.size+0+(Builtin.zeroCells i.cells A).toList.length))=B.take (b*a5.size)++(Builtin.zeroCells i.cells A).toList++B.drop (b*a5.size+(Builtin.zeroCells i.cells A).toList.length)++F:=M;rw[N]at Q;have O:∀x,(zeroValue W).run P x=.ok i x:=λx=>by simp[zeroValue,typeInfo,au,aq]
 have H:∀x T,(zeroValue W).events P x T=T:=λx T=>by simp[zeroValue,typeInfo,au,aq,aG]
 obtain⟨I,rfl⟩:∃I,A=I+1:=⟨A-1,by omega⟩
 refine⟨.value (.tuple #[]),_,?_,v,ah,a,?_⟩
 .simp[Builtin.clear_,run_underlying C,O,Q]
 intro j g;have aV:j∈(storeCells ⟨ax,b*a5.size,q⟩ (Builtin.zeroCells i.cells (I+1)).toList).events P u.a #[]:=by simp only[Builtin.clear_,aG,kf,mr]at g;simpa[run_underlying C,O,H,Q]using g
 rcases nm (Builtin.zeroCells i.cells (I+1)).toList 0 (B++F).toArray u.a #[] K M aA j aV with aF|⟨w,_,_,rfl⟩
 .grind
 exact om (b_ J) E (ao _)
end
section
variable {r:aj P}
theorem g.hl{i}(J:∀e j,bY D n e F j->bc n e->∃a:a6,a.a=e.a/\bY D ao a i j/\bc ao a/\cP n e ao a)(N:g r D bf (.ae all bt::ar) .normal i ao):g r D bf (.ae all bt::ar) .normal F n:=by intro e j M b B v p A idx u d t;obtain⟨a,K,C,y,x⟩:=J e j M b;have z:=x.too5 b;refine .aU (.of b y K z) ?_;exact N a j C y B v p A idx u d λE l w o O I s k=>t E l w o O I s (z.trans k)
def g.dK(o)(W i)(dM:Nat->p N){e}{s:Nat->p N}(u:look F o=ax (.S f e 0 s))(j:g r D bf (.ae all bt::ar) .normal ((o,cD (c n) (.S 0 i 0 0))::F) (n++[.h W i 0 dM])):g r D bf (.ae all bt::ar) .normal F n:=by
 refine g.hl (λk v a bQ=>?_) j;have C:=a.aJ o;rw[u]at C;obtain⟨t,b⟩:=bQ.b0 (bX:=.h W i 0 dM) (L:=⟨.slice q 0 0,[]⟩) (.refl _ _) rfl bQ (.inl ⟨rfl,rfl⟩) E;refine⟨{k with m:=k.m++[⟨.slice q 0 0,[]⟩]},rfl,⟨a.size,a.defers.imp λ_ d=>d.mono b.ext,λl=>?_⟩,t,b⟩;simp only[look];cases cW:af o l with
 |false=>exact(a.aJ l).mono b.ext bQ.len
 |true=>
  exact QK
def g.en(aR:bn P ad){C w}(Q:t.op=.binOp .eql o l (.const (.slice q C w)) ty){e}(E:bZ ad o=h e)(ai:e.desc=.slice W){eT}{i}(V:bG F l=ax (.S eT i k T))(X:t.guard=q)(N:fg D t.dst=f)(J:∀j:Bool,(j=f->k=0)->g r D bf (.ae all bt::ar) .normal (gb t.dst (ax (.bool j)) F) n):g r D bf (.ae all (t::bt)::ar) .normal F n:=by
 refine g.cF (ι:={j:Bool // j=f->k=0}) (λj=>ax (.bool j.1)) (λ_=>n) X N (λs M U A=>?_) λj=>J j.1 j.2;have x:=eN U l;rw[V]at x;obtain⟨b,d,B,x,_,_,_,_,I⟩:=(b8 x).b1;have z:=(aR o e E).eN;rw[ai]at z;have S:=b8 (by have:=eN U l;rw[V]at this;exact this);have ah:b.isNone=f->k=0:=by
  intro ae;rw[x]at S;cases S with
  |S j R aj ak aa ag ab Z I p=>
   grind
 refine⟨⟨b.isNone,ah⟩,.value (.bool b.isNone),s,.bool b.isNone,?_,.inl a,Rd.bool,A,.refl _ _,?_⟩
 .have p:(binOp .eql o (.slice b k d) (.slice q C w)).run P s.a=.ok (.bool b.isNone) s.a:=Go.Lib.run_eql_slice_nil s.a o W b k d C w z;have K:∀y,eqGuard .eql o l y (.slice b k d) (.slice q C w)=pure ():=λy=>by simp[eqGuard]
  have v:M.eval (.const (.slice q C w))=.slice q C w:=rfl;simp[ac,Q,x,v,K];simp[p]
 have O:∀T,(Op.equal o (.slice b k d) (.slice q C w)).events P s.a T=T:=λT=>by show(aQ (9999+1) o _ _).events P s.a T=T;unfold aQ;cases b<;>simp[underlying,z]
 have p:(Op.equal o (.slice b k d) (.slice q C w)).run P s.a=.ok b.isNone s.a:=by show(aQ (9999+1) o _ _).run P s.a=_;grind[Go.Lib.run_equalIn_slice_nil]
 have K:∀y,eqGuard .eql o l y (.slice b k d) (.slice q C w)=pure ():=λy=>by simp[eqGuard]
 have v:M.eval (.const (.slice q C w))=.slice q C w:=rfl;intro Y u;exfalso;simp[ac,Q,x,v,K,binOp]at u;simp[p,O,aG]at u
end
def fW(a:p UInt8):p aa:=a.map λb=>.int .u8 b.toNat
theorem M4{ag}:c (fW ag)=c ag:=by simp[fW]
def aeH{ag j}:fW (ag++j)=fW ag++fW j:=by simp[fW]
def jO(b:Option (Nat×Nat))(e:Nat):aa:=match b with|none=>.slice q 0 0|some (d,a)=>.slice (h ⟨d,0,q⟩) e a
def eH(s r:av)(t:Bool)(i:aa)(j:Option (Nat×Nat))(b:p UInt8)(n:Nat):aa->(Nat->Option Obj)->Prop:=λo d=>
 ∃g,o=.pointer (h ⟨g,0,q⟩)/\dX i=f/\d g=h (.cells #[if t then o else .pointer q,i] s (0,0)) /\
 match j with
 |none=>b=[]/\∀e,(d e).isSome=f↔e=g
 |some (k,a)=>k≠g/\c b<=a/\0<a/\a<=9223372036854775807/\n<=c b/\(∃l,c (fW b++l)=a/\d k=h (.cells (fW b++l).toArray r (0,n)))/\∀e,(d e).isSome=f↔e=g∨e=k
section
variable {r:aj P}{i:p (Nat×bx)}{ad:av}{x:Bool}{v1:aa}{bP:Option (Nat×Nat)}{ag:p UInt8}{ae:Nat}
structure m5(P:aI)(n:p an)(b:a6)(d:Nat)(ad W:av)(x:Bool)(v1:aa)(bP:Option (Nat×Nat))(ag:p UInt8)(ae:Nat)(L:Loc)(j:Nat)(cJ:Nat->Option Obj):Prop where
 m:b.m[d]?=h L
 v:L.v=.pointer (h ⟨j,0,q⟩)
 gf:eH ad W x v1 bP ag ae L.v cJ
 heap:∀(j:Nat) (t:Obj),cJ j=h t->b.a.heap[j]?=h t
 al:∀j,j∈L.al↔(cJ j).isSome=f
 u:∀j∈L.al,∀t,b.u j t=q
 cJ:cJ j=h (.cells #[if x then L.v else .pointer q,v1] ad (0,0))
 cell:dX v1=f
def eH.row(bQ:bc n b)(l:n[d]?=h (.J (eH ad W x v1 bP ag ae))):∃L e a,m5 P n b d ad W x v1 bP ag ae L e a:=by have p:d<c b.m:=h2;have g:=bK p;generalize b.m[d]=L at g;obtain⟨a,o,i,j,t⟩:=bQ.box d _ L l g;have r:=o;obtain⟨e,s,u,k,_⟩:=r;exact⟨L,e,a,g,s,o,i,j,t,k,u⟩
def m5.mem{L}(a:m5 P n b d ad W x v1 bP ag ae L j lb):j∈L.al:=(a.al j).2 (by rw[a.cJ];rfl)
def m5.ptr{L}(g:m5 P n b d ad W x v1 bP ag ae L j lb)(i:bz n b ab (aH d off)):ab=.pointer (h ⟨j,off,q⟩):=by obtain⟨_,k,l,a,e,rfl⟩:=(i:cA n b ab (.ptr d off));rw[g.m]at a;cases a;rw[g.v]at e;grind
def A'(aR:bn P i){e}(w:t.op=.load o l)(r:bZ i o=h e)(C:e.agg=m)(N:n[d]?=h (.J (eH ad W x v1 bP ag ae))){v}(E:η l=aH d off)(O:∀a L b g,bc n a->m5 P n a d ad W x v1 bP ag ae L b g->∃p,(#[if x then L.v else .pointer q,v1]:Array aa)[off]?=h p/\bz n a p v):a1 P t η n v n:=by
 refine .dy λa s B G=>?_;obtain⟨L,b,g,j⟩:=eH.row (P:=P) B N;have A:=j.ptr (by have:=G l;rwa [E]at this);obtain⟨p,H,Q⟩:=O a L b g B j;have I:a.a.cell? ⟨b,off,q⟩=h p:=by simp only[aL,j.heap _ _ j.cJ];grind
 have u:(loadVar o ⟨b,off,q⟩).run P a.a=.ok p a.a:=by simp[loadVar,(aR o e r).er,C,run_load,I]
 refine⟨p,by simp[ac,w,A,Instr.loadAt,Instr.sureAddr,u],Q,λz y=>?_⟩;have K:z∈(loadVar o ⟨b,off,q⟩).events P a.a #[]:=by
  have F:ac s t=(do pure (.value (<-loadVar o ⟨b,off,q⟩))):=by simp[ac,w,A,Instr.loadAt,Instr.sureAddr]
  rw[F]at y;simpa[u]using y
 obtain⟨J,D,rfl⟩:=pf (aR o e r) (k:=1) (λJ D=>by grind) M z K;exact qr (b_ j.m) j.mem
def a1.eU(aR:bn P i){e}(p:t.op=.load o l)(a:bZ i o=h e)(g:e.agg=m)(b:n[d]?=h (.J (eH ad W x v1 bP ag ae)))(k:η l=aH d 1):a1 P t η n (cN v1) n:=
 A' aR p a g b k λv L u j r s=>⟨v1,by simp,Rd.val s.cell⟩
def aaZ(e:n[d]?=h (.J H)):∀a,n[d]?=h a->a.dP=m:=by intro a b;rw[e]at b;cases b;rfl
def a1.gO(aR:bn P i){e}(s:t.op=.load o l)(b:bZ i o=h e)(k:e.agg=m)(a:n[d]?=h (.J (eH ad W f v1 bP ag ae)))(r:η l=aH d 0):a1 P t η n (aH d 0) n:=
 A' aR s b k a r λv L j p u g=>⟨L.v,by simp,aaZ a,L,j,g.m,g.v,g.v⟩
def a1.iy(aR:bn P i){e}(p:t.op=.load o l)(a:bZ i o=h e)(j:e.agg=m)(b:n[d]?=h (.J (eH ad W m v1 bP ag ae)))(k:η l=aH d 0):a1 P t η n (ax .bd) n:=
 A' aR p a j b k λv L s g r u=>⟨.pointer q,by simp,Rd.bd⟩
def setRow_size(a:au)(j)(row):(a.setRow j row).heap.size=a.heap.size:=by simp[World.setRow]
def GQ(aR:bn P i){e}(ab:t.op=.store o l X)(A:bZ i o=h e)(z:e.size=1)(Y:n[d]?=h (.J (eH ad W x v1 bP ag ae))){s}{u}(Q:η l=aH d off)(K:off<2)(F:dX u=f)(I:∀p L j r y,bc n p->m5 P n p d ad W x v1 bP ag ae L j r->bz n p y (η X)->dX y=f/\(#[if x then L.v else .pointer q,v1]:Array aa).setIfInBounds off y=#[if s then L.v else .pointer q,u]):a1 P t η n .any (n.set d (.J (eH ad W s u bP ag ae))):=by
 intro p b E Z;obtain⟨L,j,r,k⟩:=eH.row (P:=P) E Y;have G:=k.ptr (by have:=Z l;rwa [Q]at this);obtain⟨N,H⟩:=I p L j r (b X) E k (Z X);have aj:(b X).cells=#[b X]:=by cases D:b X<;>simp[D,dX,Value.cells]at N⊢
 have an:∀y∈[b X],y.oneCell'=f:=by intro y G;simp at G;subst G;cases D:b X<;>simp[D,dX,Value.oneCell']at N⊢
 have R:=k.heap _ _ k.cJ;have S:=run_storeCells_at P j off ad [b X] 0 _ p.a R M an;have O:((#[if x then L.v else .pointer q,v1]:Array aa).toList.take (off+0)++[b X]++(#[if x then L.v else .pointer q,v1]:Array aa).toList.drop (off+0+[b X].length)).toArray=#[if s then L.v else .pointer q,u]:=by
  rw[<-H]
  match off,K with
  |0,_=>grind
  |1,_=>grind
 rw[O]at S;have az:(p.a.setRow j #[if s then L.v else .pointer q,u]).heap[j]?=h (.cells #[if s then L.v else .pointer q,u] ad (0,0)):=setRow_heap p.a j _ _ ad _ R;have ak:∀g,g≠j->(p.a.setRow j #[if s then L.v else .pointer q,u]).heap[g]?=p.a.heap[g]?:=λg w=>setRow_other p.a j g _ w;obtain⟨V,aN⟩:=E.ca (d:=d) (j_:=eH ad W s u bP ag ae) (cr:=L) (bi:=p.a.setRow j #[if s then L.v else .pointer q,u]) Y k.m rfl (by rw[setRow_size];grind)
  (λg w J=>ak g (by rintro rfl;exact J k.mem)) (λg w=>.inl w)
  ⟨λg=>if g=j then h (.cells #[if s then L.v else .pointer q,u] ad (0,0))else r g,by
   obtain⟨C,U,au,av,aw⟩:=k.gf;have:C=j:=by rw[k.v]at U;grind
   subst this;have ax:∀g,(if g=C then h (Obj.cells #[if s then L.v else .pointer q,u] ad (0,0))else r g).isSome=f↔(r g).isSome=f:=M;refine⟨C,U,F,by simp,?_⟩;grind,λg ar w=>by
   by_cases v:g=j
   .grind
   .simp only[v,dn]at w;rw[ak g v];exact k.heap _ _ w,λg=>by
   rw[k.al g];by_cases v:g=j
   .subst v;simp[k.cJ]
   grind⟩ a a a
 have ao:p.m.set d L=p.m:=by
  apply qd;intro ai;by_cases v:d=ai
  .subst v;rw[ip (cQ.1 k.m).1,k.m]
  grind
 rw[ao]at V aN;refine⟨.skip,{p with a:=p.a.setRow j #[if s then L.v else .pointer q,u]},?_,rfl,V,aN,?_⟩
 .simp[ac,ab,G,Instr.storeAt,Instr.sureAddr,storeVar,(aR o e A).bc,z,aj,S]
 intro T B;have v:ac b t=(do storeVar o ⟨j,off,q⟩ (b X);pure .skip):=by simp[ac,ab,G,Instr.storeAt,Instr.sureAddr]
 rw[v]at B;have aq:T∈(storeCells ⟨j,off,q⟩ [b X]).events P p.a #[]:=by
  simp only[storeVar,aG,(aR o e A).bc,aj,z,aJ,events_sizeOf,d_,hx,dn,cK,c7,Sem.events_pure,List.size_toArray,gG]at B;generalize(storeCells ⟨j,off,q⟩ [b X]).run P p.a=k at B;cases k with
  |ok y bi=>simpa using B
  |halt l bi=>simpa using B
 rcases nm [b X] 0 _ p.a #[] R M an T aq with ah|⟨ai,_,_,rfl⟩
 .grind
 exact om (b_ k.m) k.mem (k.u _ k.mem _)
def a1.gd(aR:bn P i){e}(p:t.op=.store o l X)(a:bZ i o=h e)(k:e.size=1)(b:n[d]?=h (.J (eH ad W x v1 bP ag ae))){s}(w:η l=aH d 1)(u:η X=cN s)(v:dX s=f):a1 P t η n .any (n.set d (.J (eH ad W x s bP ag ae))):=
 GQ aR p a k b w y v λB L z j C r A g=>by rw[u]at g;have:=Rd.bk g;grind
def a1.iz(aR:bn P i){e}(u:t.op=.store o l X)(b:bZ i o=h e)(p:e.size=1)(g:n[d]?=h (.J (eH ad W x v1 bP ag ae)))(z:η l=aH d 0)(s:η X=aH d 0)(w:dX v1=f):a1 P t η n .any (n.set d (.J (eH ad W f v1 bP ag ae))):=
 GQ aR u b p g z y w λB L A r C v k j=>by rw[s]at j;have:=k.ptr j;subst this;refine⟨a,?_⟩;rw[<-k.v];rfl
def a1.iu{ad}(o:t.op=.alloc ad)(p:∀k,(zeroValue ad).run P k=.ok (.agg #[.pointer q,.slice q 0 0]) k)(u:∀k g,(zeroValue ad).events P k g=g):a1 P t η n (aH (c n) 0) (n++[.J (eH ad W m (.slice q 0 0) q [] 0)]):=by
 intro b B bQ v;let bi:=b.a.alloc (.cells #[.pointer q,.slice q 0 0] ad);obtain⟨y,w⟩:=bQ.c1 (cf:=b.u) (bi:=bi) (by simp[bi]) (λs i=>iV b.a _ i) (λ_ _ _=>rfl) (λs i t A e=>by have:=bQ.block e;omega) rfl rfl rfl;have D:bi.heap.size=b.a.heap.size+1:=by simp[bi]
 have C:bi.heap[b.a.heap.size]?=h (.cells #[.pointer q,.slice q 0 0] ad (0,0)):=lZ b.a _;obtain⟨z,x⟩:=y.b0 w rfl bQ (bX:=.J (eH ad W m (.slice q 0 0) q [] 0)) (L:=⟨.pointer (h ⟨b.a.heap.size,0,q⟩),[b.a.heap.size]⟩)
  ⟨λd=>if d=b.a.heap.size then h (.cells #[.pointer q,.slice q 0 0] ad (0,0))else q,⟨b.a.heap.size,rfl,rfl,by simp,rfl,λd=>by by_cases l:d=b.a.heap.size<;>simp[l]⟩,λd r j=>by
   grind,λd=>by by_cases l:d=b.a.heap.size<;>simp[l],λd j r=>by
   simp at j;subst j;show b.u _ _=q;cases e:b.u b.a.heap.size r with
   |none=>rfl
   |some A=>have:=bQ.block e;omega⟩ (λd j=>by grind)
 refine⟨.value (.pointer (h ⟨b.a.heap.size,0,q⟩)),_,?_,⟨by simp,⟨.pointer (h ⟨b.a.heap.size,0,q⟩),[b.a.heap.size]⟩,b.a.heap.size,?_,a,a⟩,z,x,?_⟩
 .simp[ac,o,Instr.alloc,p,Go.newVar,newRow,Value.cells,bi]
 .exact ue
 simp[ac,o,Instr.alloc,p,u,Go.newVar,newRow];exact .nil
end
end Go.AM
