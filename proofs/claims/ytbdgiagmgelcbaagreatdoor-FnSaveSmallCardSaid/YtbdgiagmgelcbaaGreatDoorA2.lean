/- Part 2. No condition. -/
import Derived.Test.YtbdgiagmgelcbaaGreatDoorA1
import Derived.KernelRfl
import Derived.Test.YtbdgiagmgelcbaaGreatDoorProg
import Derived.MapKept
import Derived.Maps.RangeRun
import Derived.Laws.MakeOwn
import Derived.Lib.SliceRun
import Derived.Lib.FrozenHead
import Derived.Lib.UnsafeStr
import Derived.Lib.MakeNoZero
import Derived.Laws.Externs
import Derived.Lib.Builder
set_option linter.all false
set_option maxHeartbeats 8000000
open Go.Proofs
open Go.Proofs.Tryz
open Go.Conc (G)
open List renaming length → c, range → aI, getD_eq_getElem?_getD → av, all_eq_true → aX
open Go renaming Value → I, TypeId → ab, Event → ay, undef → E, World → af, Operand → Z, execOp → W, Program → aw, Oper → ah, Goroutine → ae, stepG → ap, Frame → az, FuncId → ar, MapEntry → aC
open Option renaming some → b, none → k
open Bool renaming true → i, false → m
open Nat renaming beq → aa, ble → aD
open Go.World renaming cell? → aJ
open Go.Sem renaming events_pure → aT, events_bind → aE
open Go.Region renaming wanted → aS, ready → aQ
open Go.Result renaming evThen_ok → aH
open Go.Instr renaming sureAddr → aU, sliceBounds → aV
open Go.Op renaming equalIn → aM
open Go.Proofs.Tryz renaming prog → R
namespace Go.AM
variable {p:Nat}{o:Int}{l j f y:Nat}{T:ab}{H:I->(Nat->Option Obj)->Prop}{L:Array Bool}{bi:Mem}{B:Nat}{P:aw}{bg:ae->aj->Prop}{u:Code}{X:ae}{r:ah}{d:aj}{w:ab}{ai:I}{K:af}{α:Type}{η:Z->s}{ι:Type}{h:e Y}{F:bd}{all:e ah}{dK:Array ab}{cap:e D}{dg:e s}{eb:Nat->Option Obj}{aY:e az}{bK:e (Nat×Bool)}{es:Nat->e D}{dC:Z}{gs:Array ae}{bb:e Nat}{cl:e Prop}{off:Nat}{op:BinOp}{aP:Array ah}{aB:e Prop}{bw:e ah}{au:aj}{gz:Bool}{ty:ab}{val:Nat->Nat->I}{z:e I}{a5:af}{O:e I}{aO dq:e Y}{res:ι->s}{a6:ι->e Y}
section force
variable {U:Type}
def tt:D->(D->Option U)->Option U
 |.int g h,a=>a (.int g h)
 |.bool f,a=>a (.bool f)
 |.R o,a=>a (.R o)
 |.M i g h e,a=>a (.M i g h e)
 |.M m g h e,a=>a (.M m g h e)
 |.U d,a=>eL d λd=>a (.U d)
 |.b' p d,a=>eL d λd=>a (.b' p d)
 |.fn n j f,a=>eL j λj=>eL f λf=>a (.fn n j f)
 |l,a=>a l
def Rv(a:D)(e:D->Option U):tt a e=e a:=by
 cases a with
 |M f=>cases f<;>rfl
 |U d=>simp[tt,gO]
 |b' f d=>simp[tt,gO]
 |fn j g h=>simp[tt,gO]
 |_=>rfl
def ts:C->(C->Option U)->Option U
 |.c l,a=>tt l λl=>a (.c l)
 |.ptr d j,a=>a (.ptr d j)
 |.q d e h f,a=>a (.q d e h f)
 |.aD d,a=>a (.aD d)
 |.ak d (.M g e j h),a=>a (.ak d (.M g e j h))
 |.ak d (.bM g e o n),a=>a (.ak d (.bM g e o n))
 |.any,a=>a .any
def Fz(a:C)(d:C->Option U):ts a d=d a:=by
 cases a with
 |ak f e=>cases e<;>simp[ts]
 |_=>simp[ts,Rv]
def v2:e C->(e C->Option U)->Option U
 |[],d=>d []
 |a::f,d=>ts a λa=>v2 f λf=>d (a::f)
def Ru(a:e C)(d:e C->Option U):v2 a d=d a:=by
 induction a generalizing d with
 |nil=>rfl
 |cons g h f=>simp[v2,Fz,f]
def v4:E1->(E1->Option U)->Option U
 |.S d,e=>ts d λd=>e (.S d)
 |.agg a,e=>v2 a λa=>e (.agg a)
def FA(a:E1)(d:E1->Option U):v4 a d=d a:=by cases a<;>simp[v4,Fz,Ru]
def v5:e E1->(e E1->Option U)->Option U
 |[],d=>d []
 |a::f,d=>v4 a λa=>v5 f λf=>d (a::f)
def Rw(a:e E1)(d:e E1->Option U):v5 a d=d a:=by
 induction a generalizing d with
 |nil=>rfl
 |cons g h f=>simp[v5,FA,f]
def nO:s->(s->Option U)->Option U
 |.k d,a=>v4 d λd=>a (.k d)
 |.C O,a=>v5 O λO=>a (.C O)
 |.any,a=>a .any
theorem tu(a:s)(d:s->Option U):nO a d=d a:=by cases a<;>simp[nO,FA,Rw]
end force
def o_:s->Option (Bool×Nat×Nat×(Nat->e D))
 |.k (.S (.c (.M g d f a)))=>b (g,d,f,a)
 |.k (.S (.q _ d f a))=>b (m,d,f,a)
 |_=>k
theorem rZ{d:s}{j:Bool}{f:Nat}(a:o_ d=b (j,f,p,es))(n:e Y)(h:aj)(l:I)(g:bo n h l d):Rd h.n l (.M j f p es):=by
 unfold o_ at a;split at a
 .cases a;exact g
 .cases a;exact g.1
 grind
def jI(d:e UInt8)(a:Int):UInt8:=d.getD a.toNat 0
def Au(d:e (Nat×bh))(j:ab)(a:s):Option s:=
 match bY d j with
 |none=>k
 |some f=>match f.desc with
  |.slice _=>match o_ a with
   |some (_,_,g,_)=>b (aL (.int .i64 g))
   |none=>k
  |.string=>match a with
   |.k (.S (.c (.R h)))=>b (aL (.int .i64 (c h)))
   |_=>k
  |_=>k
def zl(g:e (Nat×bh))(d dst:ab)(f:s):Option (s×e Prop):=
 match bY g d with
 |none=>k
 |some j=>match bY g dst with
  |none=>k
  |some l=>match l.desc with
   |.int a=>match f with
    |.k (.S (.c (.int _ o)))=>b (aL (.int a o),[a9 a o])
    |_=>k
   |.string=>match f with
    |.k (.S (.c (.R u)))=>b (aL (.R u),[])
    |f=>match j.desc with
     |.slice p=>match bY g p with
      |some n=>match n.desc with
       |.int .u8=>match o_ f with
        |some (_,q,r,h)=>match aa q 1 with
         |true=>match s9 h 0 r with
          |some t=>b (aL (.R t),[])
          |none=>k
         |false=>k
        |none=>k
       |_=>k
      |none=>k
     |_=>k
   |_=>k
def Bq(n:e (Nat×bh))(a:Z->s)(v:ab)(q:Z)(l j:Option Z):Option (s×e Prop):=
 match bY n v with
 |none=>k
 |some t=>match jH a l with
  |none=>k
  |some f=>match jH a j with
   |none=>k
   |some g=>match t.desc with
    |.string=>match a q with
     |.k (.S (.c (.R p)))=>b (aL (.R (lb p f g)),ib (c p) f g)
     |_=>k
    |.slice r=>match bY n r with
     |none=>k
     |some d=>match o_ (a q)with
      |some (ew,u,o,h)=>match aa u d.size with
       |true=>b (aL (.M (zs ew g) d.size (cE o g-cE 0 f) (gR (cE 0 f) h)),ib o f g)
       |false=>k
      |none=>k
    |_=>k
def qR(f:BinOp)(g:IntKind)(h:Int)(d:IntKind)(j:Int):Option (s×e Prop):=
 match s3 f g h d j with
 |some (l,a)=>b (aL (.int g l),a)
 |none=>k
theorem MQ{d a:IntKind}{e f:Int}{h:s}(j:qR op d e a f=b (h,cl)):∃g,h=aL (.int d g)/\s3 op d e a f=b (g,cl):=by unfold qR at j;grind
def C4(r:e (Nat×bh))(g:BinOp)(t:ab)(v w:s):Option (s×e Prop):=
 match v,w with
 |.k (.S (.c (.bool d))),.k (.S (.c (.bool a)))=>match bY r t with
  |some q=>match q.desc with
   |.bool=>match hn g (d==a)with
    |some h=>b (aL (.bool h),[])
    |none=>k
   |_=>k
  |none=>k
 |.k (.S (.c d)),.k (.S (.c a))=>match g with
  |.xor=>match d,a with
   |.int .i64 d,.int .i64 a=>b (aL (.int .i64 ((d.toNat ^^^ a.toNat:Nat):Int)),[0<=d,0<=a])
   |.int .u64 d,.int f a=>qR .xor .u64 d f a
   |_,_=>k
  |.shl=>match d,a with
   |.int j d,.int f a=>qR .shl j d f a
   |_,_=>k
  |.shr=>match d,a with
   |.int j d,.int f a=>qR .shr j d f a
   |_,_=>k
  |.and=>match d,a with
   |.int j d,.int f a=>qR .and j d f a
   |_,_=>k
  |_=>match vl g d a with
   |some (h,l)=>b (aL h,l)
   |none=>k
 |.k (.agg n),.k (.agg p)=>match bY r t with
  |some q=>match q.eq with
   |[]=>k
   |u::o=>match oN (u::o) n p with
    |some a=>match hn g a with
     |some h=>b (aL (.bool h),[])
     |none=>k
    |none=>k
  |none=>k
 |_,_=>k
def wI(h:e (Nat×bh))(A:e (Nat×bB))(d:bd)(N:ah):Option (s×e Prop):=
 match N.op with
 |.move a|.assign a=>b (bA d a,[])
 |.index f a y=>match bY h f with
  |some o=>match o.desc with
   |.string=>match bA d a,bA d y with
    |.k (.S (.c (.R t))),.k (.S (.c (.int _ l)))=>b (aL (.int .u8 (jI t l).toNat),[0<=l,l<c t])
    |_,_=>k
   |_=>k
  |none=>k
 |.indexAddr f a y=>match bY h f with
  |some o=>match o.desc with
   |.slice K=>match bY h K with
    |some I=>match o_ (bA d a),bA d y with
     |some (_,p,z,q),.k (.S (.c (.int _ l)))=>match aa p I.size with
      |true=>b (aL (.U (q l.toNat)),[0<=l,l<z])
      |false=>k
     |_,_=>k
    |none=>k
   |_=>k
  |none=>k
 |.slice f a J F k=>Bq h (bA d) f a J F
 |.convert x dst a=>zl h x dst (bA d a)
 |.call j=>match j.callee with
  |.builtin .len=>match j.args.toList,j.argTypes[0]? with
   |[a],b f=>match Au h f (bA d a)with
    |some M=>b (M,[])
    |none=>k
   |_,_=>k
  |.value E=>y_ A d E j.args.toList
  |_=>k
 |.pick j u v=>match bA d j with
  |.k (.S (.c (.bool i)))=>b (bA d u,[])
  |.k (.S (.c (.bool m)))=>b (bA d v,[])
  |_=>k
 |.binOp r f a y _=>C4 h r f (bA d a) (bA d y)
 |.unOp r _ a=>match bA d a with
  |.k (.S (.c u))=>match xw r u with
   |some j=>b (aL j,[])
   |none=>k
  |_=>k
 |.extract a l=>match bA d a with
  |.C O=>match cH l O with
   |some w=>b (.k w,[])
   |none=>k
  |_=>k
 |.fieldAddr f a D=>match kg h f D with
  |some (p,_)=>match bA d a with
   |.k (.S (.ptr t n))=>b (ba t (n+p),[])
   |.k (.S (.c (.U g)))=>b (aL (.U (fv p g)),[])
   |_=>k
  |none=>k
 |.field f a D=>match kg h f D with
  |some (p,l)=>match bA d a with
   |.k (.agg g)=>match gl l (fv p g)with
    |some w=>b (.k w,[])
    |none=>k
   |_=>k
  |none=>k
 |.nilCheck a=>match bA d a with
  |.k (.S (.ptr t n))=>b (ba t n,[])
  |.k (.S (.c (.U g)))=>b (aL (.U g),[])
  |_=>k
 |.build f parts=>match vo h (bA d) f parts.toList with
  |some g=>b (.k (.agg g),[])
  |none=>k
 |.buildSlice f z parts=>match wl h (bA d) f z parts.toList with
  |some (p,q)=>b (aL (.M i p z λo=>q.getD o []),[])
  |none=>k
 |.makeFunc fn u v=>match pX (bA d) u.toList with
  |some B=>match pX (bA d) v.toList with
   |some C=>b (aL (.fn fn B C),[])
   |none=>k
  |none=>k
 |.makeInterface f a=>match bY h f with
  |some o=>match tG o.desc with
   |false=>match wy f (bA d a)with
    |some j=>b (aL j,[])
    |none=>k
   |true=>k
  |none=>k
 |.typeAssert a _ f i=>match bY h f with
  |some o=>match tG o.desc with
   |false=>match bA d a with
    |.k (.S (.c j))=>match qP f o j with
     |some (w,v)=>b (.C [w,.S (.c (.bool v))],[])
     |none=>k
    |_=>k
   |true=>k
  |none=>k
 |_=>k
def Ax(j:e (Nat×bh))(h:bd)(l:e Y)(o:ab)(p:Z):Option s:=
 match bY j o with
 |some g=>match bA h p with
  |.k (.S (.ptr n d))=>match cH n l with
   |some (.cells _ a)=>match gl g (fv d a)with
    |some f=>b (.k f)
    |none=>k
   |_=>k
  |.k (.S (.c (.U a)))=>match gl g (a.map C.c)with
   |some f=>b (.k f)
   |none=>k
  |_=>k
 |none=>k
def AO(o:e (Nat×bh))(d:bd)(J:ah):Option (s×e Prop):=
 match J.op with
 |.indexAddr n h x=>match bY o n with
  |some a=>match a.desc with
   |.slice r=>match bY o r with
    |some g=>match bA d h,bA d x with
     |.k (.S (.ak u (.M t p w j))),.k (.S (.c (.int _ f)))=>match aa p g.size with
      |true=>b (dR u (.bM t g.size (w+f.toNat) 0),[0<=f,f<j])
      |false=>k
     |.k (.S (.c (.val (.slice (b ⟨z,l,k⟩) q _)))),.k (.S (.c (.int _ f)))=>b (aL (.val (.pointer (b ⟨z,l+f.toNat*g.size,k⟩))),[0<=f,f<q])
     |_,_=>k
    |none=>k
   |_=>k
  |none=>k
 |.fieldAddr n h I=>match kg o n I with
  |some (p,_)=>match bA d h with
   |.k (.S (.ak u (.bM t y a w)))=>b (dR u (.bM t y a (w+p)),[])
   |.k (.S (.c (.val (.pointer (b ⟨z,l,k⟩)))))=>b (aL (.val (.pointer (b ⟨z,l+p,k⟩))),[])
   |_=>k
  |none=>k
 |.nilCheck h=>match bA d h with
  |.k (.S (.ak u (.bM t y a w)))=>b (dR u (.bM t y a w),[])
  |_=>k
 |.slice n h D C k=>match bY o n with
  |none=>k
  |some a=>match jH (bA d) D with
   |none=>k
   |some v=>match jH (bA d) C with
    |none=>k
    |some F=>match a.desc with
     |.slice r=>match bY o r with
      |none=>k
      |some g=>match bA d h with
       |.k (.S (.ak u (.M t p w j)))=>match aa p g.size with
        |true=>b (dR u (.M t g.size (w+cE 0 v) (cE j F-cE 0 v)),ib j v F)
        |false=>k
       |_=>k
     |_=>k
 |.slice n h k (b x) (b E)=>match bY o n with
  |none=>k
  |some a=>match a.desc with
   |.slice r=>match bY o r with
    |none=>k
    |some _=>match o_ (bA d h),bA d x,bA d E with
     |some (_,p,q,B),.k (.S (.c (.int _ f))),.k (.S (.c (.int _ j)))=>b (aL (.M m p f.toNat B),[0<=f,f<=j,j<=q])
     |_,_,_=>k
   |_=>k
 |.slice n h (b K) (b x) (b E)=>match bY o n with
  |none=>k
  |some a=>match a.desc with
   |.slice r=>match bY o r with
    |none=>k
    |some _=>match bA d h,bA d K,bA d x,bA d E with
     |.k (.S (.ak _ (.M _ _ _ q))),.k (.S (.c (.int _ a))),.k (.S (.c (.int _ f))),.k (.S (.c (.int _ j)))=>b (.k (.S .any),[0<=a,a<=f,f<=j,j<=q])
     |_,_,_,_=>k
   |_=>k
 |.call A=>match A.callee with
  |.builtin .len=>match A.args.toList,A.argTypes[0]? with
   |[h],b n=>match bY o n with
    |some a=>match a.desc with
     |.slice _=>match bA d h with
      |.k (.S (.ak _ (.M _ _ _ j)))=>b (aL (.int .i64 j),[])
      |.k (.S (.c (.val (.slice _ q _))))=>b (aL (.int .i64 q),[q<=9223372036854775807])
      |_=>k
     |_=>k
    |none=>k
   |_,_=>k
  |_=>k
 |_=>k
def wm(l:e (Nat×bh))(j:bd)(n:e Y)(u:ab)(v:Z):Option (s×e Prop):=
 match bY l u with
 |some d=>match bA j v with
  |.k (.S (.ak t (.bM q r g p)))=>match cH t n with
   |some (.A _ f h a)=>match aa f r with
    |true=>match gl d ((fv p (a g)).map C.c)with
     |some o=>b (.k o,[q=h,g<h])
     |none=>k
    |false=>k
   |_=>k
  |_=>k
 |none=>k
def WI:Nat->e D->Nat->Bool
 |0,a,d=>aa (c a) d
 |_+1,_,_=>m
def BB(w:e (Nat×bh))(r:bd)(l:e Y)(x:ab)(y z:Z):Option (s×e Y×e Prop):=
 match bY w x with
 |some o=>match bA r y with
  |.k (.S (.ak p (.bM u v j t)))=>match cH p l with
   |some (.A q g h f)=>match aa g v with
    |true=>match kA (bA r z)with
     |some new=>match aa (c new) o.size with
      |true=>match hA new with
       |some d=>match WI t d v with
        |true=>eL (cZ.b2 p (.A q g h (kq j d f)) l) λa=>b (.any,a,[u=h,j<h])
        |false=>match h4 t d (f j)with
         |some n=>eL (cZ.b2 p (.A q g h (kq j n f)) l) λa=>b (.any,a,[u=h,j<h])
         |none=>k
       |none=>k
      |false=>k
     |none=>k
    |false=>k
   |_=>k
  |_=>k
 |none=>k
def n2(d:e (Nat×bh))(f:e (Nat×bB))(a:bd)(h:e Y)(g:ah):Option (s×e Prop):=
 match g.op with
 |.load j l=>match Ax d a h j l with
  |some n=>b (n,[])
  |none=>wm d a h j l
 |_=>match wI d f a g with
  |some o=>b o
  |none=>AO d a g
def vg(g:e (Nat×bh))(l t2:ab):Option (ab×bh):=
 match bY g l with
 |none=>k
 |some j=>match bY g t2 with
  |none=>k
  |some h=>match j.desc with
   |.slice d=>match h.desc with
    |.slice f=>match aa f d with
     |false=>k
     |true=>match bY g d with
      |none=>k
      |some a=>match aD 1 a.bytes,aD 1 a.size with
       |true,i=>b (d,a)
       |_,_=>k
    |_=>k
   |_=>k
def sY(j:e (Nat×bh))(g:Z->s)(o:Z)(n t2:ab):Option (ab×bh×Nat×(Nat->e D)):=
 match vg j n t2 with
 |none=>k
 |some (h,d)=>match o_ (g o)with
  |none=>k
  |some (_,f,l,a)=>match aa f d.size with
   |false=>k
   |true=>b (h,d,l,a)
def yn(v:e (Nat×bh))(u:Z->s)(n:e Y)(y z:Z)(x t2:ab):Option (s×e Y×e Prop):=
 match sY v u z x t2 with
 |none=>k
 |some (r,a,l,d)=>match u y with
  |.k (.S (.c (.M i t f h)))=>match aa t a.size with
   |true=>eL (n++[.q r a.size (f+l) (b_ f h d)]) λj=>b (.k (.S (.q (c n) a.size (f+l) (b_ f h d))),j,[(f+l)*a.bytes<=140737488355328,f=0∨0<l])
   |false=>match aa f 0 with
    |true=>eL (n++[.q r a.size (f+l) (b_ f h d)]) λj=>b (.k (.S (.q (c n) a.size (f+l) (b_ f h d))),j,[(f+l)*a.bytes<=140737488355328,f=0∨0<l])
    |false=>k
  |.k (.S (.q q t f h))=>match cH q n with
   |some (.q o p g dU)=>match aa o r,aa t a.size,aa p a.size with
    |true,i,i=>eL (cZ.b2 q (.q r a.size (f+l) (b_ f h d)) n) λj=>b (.k (.S (.q q a.size (f+l) (b_ f h d))),j,[g=f,dU=h,(f+l)*a.bytes<=140737488355328])
    |_,_,_=>k
   |_=>k
  |.k (.S (.ak q (.M w t 0 f)))=>match cH q n with
   |some (.A o p g dU)=>match aa o r,aa t a.size,aa p a.size with
    |true,i,i=>eL (cZ.b2 q (.A r a.size (g+l) (b_ g dU d)) n) λj=>b (dR q (.M (g+l) a.size 0 (g+l)),j,[w=g,f=g,(g+l)*a.bytes<=140737488355328])
    |_,_,_=>k
   |_=>k
  |_=>k
def AR(f:e (Nat×bh))(h:e (Nat×bB))(a:bd)(d:e Y)(l:ah):Option (s×e Y×e Prop):=
 match l.op with
 |.alloc _|.box _ _=>wH f a d l
 |.store n o p=>match wH f a d l with
  |some q=>b q
  |none=>BB f a d n o p
 |.call g=>match g.callee with
  |.builtin .append=>match g.args.toList,g.argTypes.toList with
   |[o,p],[n,t2]=>yn f (bA a) d o p n t2
   |_,_=>k
  |.value j=>y9 h a d j g.args.toList
  |_=>k
 |_=>k
def ym(l:e (Nat×bh))(g:Z->s)(o p:Z)(n t2:ab):Option (s×e Prop):=
 match sY l g p n t2 with
 |none=>k
 |some (_,d,j,a)=>match g o with
  |.k (.S (.c (.M i q f h)))=>match aa f 0 with
   |true=>b (aL (.M m d.size (f+j) (b_ f h a)),[(f+j)*d.bytes<=140737488355328,f=0∨0<j])
   |false=>k
  |_=>k
def AP(f:e (Nat×bh))(d:bd)(g:ah):Option (s×e Prop):=
 match g.op with
 |.call a=>match a.callee with
  |.builtin .append=>match a.args.toList,a.argTypes.toList with
   |[j,l],[h,t2]=>ym f (bA d) j l h t2
   |_,_=>k
  |_=>k
 |_=>k
def tL:e (Nat×Bool)->Nat->Option Bool
 |[],_=>k
 |(f,d)::g,a=>match aa f a with|true=>b d|false=>tL g a
def Ap(a:e (Nat×Bool)):Option Nat->Bool
 |none=>m
 |some d=>match tL a (2000000+d)with
  |some i=>i
  |_=>m
def Sg(a:e (Nat×Bool)):Option Nat->Bool
 |none=>m
 |some d=>match tL a (3000000+d)with
  |some i=>i
  |_=>m
def yo(u:ab)(a:bh)(f:Z->s)(v:e Y)(z A:Z):Option (s×e Y×e Prop):=
 match f z,f A with
 |.k (.S (.ak g (.M x y 0 p))),.k (.S (.ak t (.M o q w h)))=>match aa t g with
  |false=>k
  |true=>match cH g v with
   |some (.A j r d n)=>match aa j u,aa y a.size,aa q a.size,aa r a.size with
    |true,i,i,i=>eL (cZ.b2 g (.A u a.size d (tO p w h n)) v) λl=>b (dR g (.M d a.size 0 (p+h)),l,[x=d,o=d,p+h<=d,w+h<=d])
    |_,_,_,_=>k
   |_=>k
 |_,_=>k
def yp(u:Bool)(o:e (Nat×bh))(d:Z->s)(j:e Y)(q r:Z)(p t2:ab):Option (s×e Y×e Prop):=
 match u with
 |true=>match sY o d r p t2 with
  |none=>k
  |some (h,a,g,f)=>match d q with
   |.k (.S (.c (.M i _ t n)))=>match aa t 0 with
    |true=>eL (j++[.A h a.size (0+g) (b_ 0 n f)]) λl=>b (dR (c j) (.M (0+g) a.size 0 (0+g)),l,[(0+g)*a.bytes<=140737488355328])
    |false=>k
   |_=>k
 |false=>match vg o p t2 with
  |none=>k
  |some (h,a)=>yo h a d j q r
def wJ(l:Bool)(f:e (Nat×bh))(d:bd)(g:e Y)(h:ah):Option (s×e Y×e Prop):=
 match h.op with
 |.call a=>match a.callee with
  |.builtin .append=>match a.args.toList,a.argTypes.toList with
   |[n,o],[j,t2]=>yp l f (bA d) g n o j t2
   |_,_=>k
  |_=>k
 |_=>k
def tU(j:e (Nat×Bool))(g:e (Nat×bh))(d:e (Nat×bB))(f:bd)(h:e Y)(a:ah):Option (s×e Y×e Prop):=
 match Sg j a.dst with
 |true=>wJ i g f h a
 |false=>match AR g d f h a with
  |some l=>b l
  |none=>wJ m g f h a
def tj(d:e (Nat×Bool))(h:Option Nat)(f:s)(a:e Prop):Option (s×e Prop):=
 match h with
 |none=>b (f,a)
 |some l=>match tL d l with
  |none=>b (f,a)
  |some g=>match f with
   |.k (.S (.c (.bool j)))=>b (aL (.bool g),gh a [j=g])
   |_=>k
def NE{h:Option Nat}{f g:s}{d:e Prop}(a:tj bK h f cl=b (g,d))(j:V d):g=f/\V cl:=by
 unfold tj at a;split at a
 .grind
 split at a
 .grind
 split at a
 .cases a;simp_all
 grind
def gS(n:e (Nat×bh))(h:e (Nat×bB))(f:e (Nat×Bool))(j:e ah)(l:bd)(r:e Y)(g:ah):Option (s×Option (e Y)×e Prop):=
 let go:Option (s×Option (e Y)×e Prop):=match n2 n h l r g with
  |some (d,a)=>match tj f g.dst d a with
   |some (q,t)=>nO q λq=>b (q,k,t)
   |none=>k
  |none=>match Ap f g.dst with
   |true=>match AP n l g with
    |some (d,a)=>nO d λd=>b (d,k,a)
    |none=>k
   |false=>match tU f n h l r g with
    |some (d,o,a)=>nO d λd=>b (d,b o,a)
    |none=>k
 match g.guard with
 |none=>go
 |some (v,u)=>match v_ l j v with
  |some (b p)=>match u,p with
   |true,i=>go
   |false,m=>go
   |_,_=>b (.C [],k,[])
  |some k=>b (.C [],k,[])
  |none=>k
section
variable {q:al P}{ag:e (Nat×bh)}{CT:e (Nat×bB)}
def CY(aG:bT P ag){n o:Z}{t2:ab}{d:bh}(h:r.op=.call {callee:=.builtin .append,args:=#[n,o],argTypes:=#[w,t2]})(a:vg ag w t2=b (T,d)):h9 P r n o T d:=by
 unfold vg at a;split at a
 .cases a
 rename_i l g;split at a
 .cases a
 rename_i j s;split at a
 case h_2=>cases a
 rename_i T t;split at a
 case h_2=>cases a
 rename_i p e;split at a
 .cases a
 rename_i q;have u:=c1 q;subst u;split at a
 .cases a
 rename_i d f;split at a
 case h_2=>cases a
 rename_i v x;cases a;exact⟨⟨w,t2,l,j,h,aG w l g,t,aG t2 j s,e⟩,aG _ _ f,by exact ky,by exact ky⟩
def yq(aG:bT P ag){s l:Z}{t2:ab}{f:bh}{q:Nat}{a:Nat->e D}(o:r.op=.call {callee:=.builtin .append,args:=#[s,l],argTypes:=#[w,t2]})(d:sY ag η l w t2=b (T,f,q,a)):
  h9 P r s l T f/\∃g,∀n h j,bo n h j (η l)->Rd h.n j (.M g f.size q a):=by
 unfold sY at d;split at d
 .cases d
 rename_i v;split at d
 .cases d
 rename_i g x q a p;split at d
 .cases d
 rename_i t;have u:=c1 t;subst u;cases d;exact⟨CY aG o v,g,λn h j=>rZ p n h j⟩
theorem MF(aG:bT P ag)(A:∀h j l,bQ B h j F l->aS r (yielded all.toArray l.tmps)=i){v x:Z}{t2:ab}{t:s}(f:r.op=.call {callee:=.builtin .append,args:=#[v,x],argTypes:=#[w,t2]})(a:ym ag (bA F) v x w t2=b (t,cl))(n:V cl):a0 q B all r F h t h:=by
 unfold ym at a;split at a
 .cases a
 rename_i y C I u e;obtain⟨z,D,d⟩:=yq aG f e;have d:=λj E=>d h j E;split at a
 .rename_i o p es g;split at a
  .rename_i X;cases a;exact(a0.aT A (aR.fI z g (.inr (c1 X)) d n.1 n.2)).eJ
  grind
 grind
theorem MG(aG:bT P ag){F I:Z}{t2:ab}{B:s}(t:r.op=.call {callee:=.builtin .append,args:=#[F,I],argTypes:=#[w,t2]})(a:yn ag η h F I w t2=b (B,aO,cl))(e:V cl):aR P r η h B aO:=by
 unfold yn at a;split at a
 .cases a
 rename_i M N S E q;obtain⟨g,Q,f⟩:=yq aG t q;have f:=λO R=>f h O R;split at a
 .rename_i o p es d;split at a
  .rename_i cI;rw[gO]at a;cases a;exact aR.fI g d (.inl (c1 cI)) f e.1 e.2
  split at a
  .rename_i T;rw[gO]at a;cases a;exact aR.fI g d (.inr (c1 T)) f e.1 e.2
  grind
 .rename_i l o p es d;split at a
  .rename_i D J j dU e4;split at a
   .rename_i K x A;rw[gO,lB]at a;cases a;obtain⟨u,C,y⟩:j=p/\dU=es/\_:=e;subst u;subst C;have v:=c1 K;subst v;have z:=c1 x;have n:=c1 A;subst n;subst z;exact aR.h0 g d (dL e4) f y
   grind
  grind
 .rename_i l X o p d;split at a
  .rename_i D J j dU e4;split at a
   .rename_i K x A;rw[gO,lB]at a;cases a;obtain⟨u,C,y⟩:X=j/\p=j/\_:=e;subst u;subst C;have v:=c1 K;subst v;have z:=c1 x;have n:=c1 A;subst n;subst z;exact aR.hU g d (dL e4) f y
   grind
  grind
 grind
theorem Sq(aG:bT P ag){j:Z}{g:s}(e:r.op=.call {callee:=.builtin .len,args:=#[j],argTypes:=dK})(n:dK[0]?=b w)(a:Au ag w (η j)=b g):aR P r η h g h:=by
 unfold Au at a;split at a
 .cases a
 rename_i u d;split at a
 .rename_i T l;split at a
  .rename_i ew o p es f;cases a;exact aR.je aG e n d l (λq t=>rZ f h q t)
  grind
 .grind [aR.jf]
 grind
theorem Nt(aG:bT P ag){d dst:ab}{v:Z}{t:s}(g:r.op=.convert d dst v)(a:zl ag d dst (η v)=b (t,cl))(w:V cl):aR P r η h t h:=by
 unfold zl at a;split at a
 .cases a
 rename_i D f;split at a
 .cases a
 rename_i E q;split at a
 .rename_i A e;split at a
  .rename_i o y l;cases a;exact aR.ih aG g f q e l w
  grind
 .rename_i e;split at a
  .grind [aR.ij]
  split at a
  .rename_i T z;split at a
   .rename_i bz j;split at a
    .rename_i u;split at a
     .rename_i ew o p es n;split at a
      .rename_i cI;have x:=c1 cI;subst x;split at a
       .rename_i F X;cases a;exact aR.ig aG g f q z e j u (λB C=>rZ n h B C) X
       grind
      grind
     grind
    grind
   grind
  grind
 grind
theorem UB(aG:bT P ag){g:Z}{e d:Option Z}{f:s}(j:r.op=.slice w g e d k)(a:Bq ag η w g e d=b (f,cl))(l:V cl):aR P r η h f h:=by
 unfold Bq at a;split at a
 .cases a
 rename_i q n;split at a
 .cases a
 rename_i t p;split at a
 .cases a
 rename_i u o;split at a
 .grind [aR.jZ]
 .grind [Nat.eq_of_beq_eq_true,aR.jY,rZ]
 grind
theorem yr{O:Array α}{a:α}(d:O.toList=[a]):O=#[a]:=qL d
theorem ys{O:Array α}{a d:α}(e:O.toList=[a,d]):O=#[a,d]:=qL e
theorem S5(aG:bT P ag)(L:a3 q CT){J:s}(n:wI ag CT F r=b (J,cl))(t:V cl)(a1:∀h z g,bQ B h z F g->aS r (yielded all.toArray g.tmps)=i):a0 q B all r F h J h:=by
 unfold wI at n;split at n
 .grind [a0.aT,aR.move]
 .grind [a0.aT,aR.assign]
 .rename_i w W A a;split at n
  .rename_i f d;split at n
   .rename_i K;split at n
    .rename_i l o y e C;cases n;obtain⟨O,N⟩:0<=y/\y<(c l:Int):=t;have:=aR.iX (h:=h) (a2:=y.toNat) aG a d K e C x x;have M:jI l y=l[y.toNat]'x:=by simp[jI,av,bu (by omega:y.toNat<c l)]
     grind[a0.aT]
    grind
   grind
  grind
 .rename_i w W A a;split at n
  .rename_i f d;split at n
   .rename_i T K;split at n
    .rename_i bz v;split at n
     .rename_i ew o p es S y e C;split at n
      .rename_i cI;cases n;obtain⟨O,N⟩:0<=y/\y<(p:Int):=t;have M:=c1 cI;subst M;exact a0.aT a1 (aR.indexAddr (a2:=y.toNat) aG a d K v (λz U=>rZ e h z U) C x x)
      grind
     grind
    grind
   grind
  grind
 .grind [a0.aT,UB]
 .grind [a0.aT,Nt]
 .rename_i u a;obtain⟨H,args,I⟩:=u;grind[yr,a0.aT,Sq,a0.hY]
 .rename_i u g j be;split at n
  .exact JV
  .exact JV
  grind
 .rename_i op w A Y ty be;unfold C4 at n;split at n
  .grind [a0.aT,aR.h_]
  .rename_i g j _ D E;split at n
   .split at n
    .rename_i _ _ Q R _ _;cases n;exact a0.aT a1 (aR.j_ be D E t.1 t.2)
    .exact xD
    grind
   .exact xD
   .exact xD
   .exact xD
   grind[a0.aT,aR.binOp]
  .rename_i aY es D E;split at n
   .grind [a0.aT,aR.j4]
   grind
  grind
 .grind [a0.aT,aR.unOp]
 .grind [a0.aT,aR.extract,dL]
 .rename_i w A X be;split at n
  .rename_i o y G;split at n
   .rename_i l off e;cases n;exact a0.aT a1 (aR.gT aG be e G)
   .grind [a0.aT,aR.gU]
   grind
  grind
 .grind [a0.aT,aR.field]
 .grind [a0.aT,aR.hi,aR.hj]
 .grind [a0.aT,aR.build]
 .grind [a0.aT,aR.buildSlice]
 .grind [a0.aT,aR.makeFunc]
 .grind [a0.aT,aR.makeInterface]
 .grind [a0.aT,aR.typeAssert]
 grind
theorem S0(aG:bT P ag){N:s}(a:AO ag F r=b (N,cl))(t:V cl):aR P r (bA F) h N h:=by
 unfold AO at a;split at a
 .rename_i w x Q d;split at a
  .rename_i f n;split at a
   .rename_i T C;split at a
    .rename_i bz g;split at a
     .rename_i l X o O q E y e A;split at a
      .rename_i cI;cases a;obtain⟨D,z⟩:0<=y/\y<(q:Int):=t;grind[Nat.eq_of_beq_eq_true,aR.iV]
      grind
     .rename_i j off p cap E y e A;cases a;obtain⟨D,z⟩:0<=y/\y<(p:Int):=t;grind[aR.iW]
     grind
    grind
   grind
  grind
 .rename_i w x ai d;split at a
  .rename_i o y H;split at a
   .rename_i l X aq f O e;cases a;exact aR.iH aG d e H
   .rename_i j off e;cases a;exact aR.iJ aG d e H
   grind
  grind
 .grind [aR.jv]
 .rename_i w x R n d;split at a
  .cases a
  rename_i f I;split at a
  .cases a
  rename_i ab ae;split at a
  .cases a
  grind[Nat.eq_of_beq_eq_true,aR.sliceB]
 .rename_i w x Q W d;split at a
  .cases a
  rename_i f I;split at a
  .rename_i T C;split at a
   .cases a
   rename_i bz g;split at a
   .rename_i ew o p es B y L q e A G;cases a;obtain⟨D,z,J⟩:0<=y/\y<=q/\q<=(p:Int):=t;exact aR.jV aG d I C g (λS U=>rZ e h S U) A G D z J
   grind
  grind
 .rename_i w x K Q W d;split at a
  .cases a
  rename_i f I;split at a
  .rename_i T C;split at a
   .cases a
   rename_i bz g;split at a
   .rename_i l X o O p af f B y L q e ad A G;cases a;obtain⟨D,z,J,Z⟩:0<=f/\f<=y/\y<=q/\q<=(p:Int):=t;grind[aR.slice3B]
   grind
  grind
 .rename_i u d;obtain⟨Y,args,M⟩:=u;simp only at a;split at a
  .split at a
   .rename_i x w e ax;split at a
    .rename_i f n;split at a
     .rename_i T C;split at a
      .grind [yr,aR.jc]
      .rename_i ah p cap v;cases a;have:=yr e;subst this;exact aR.jg aG d ax n C v t
      grind
     grind
    grind
   grind
  grind
 grind
theorem Sv(aG:bT P ag){t:Z}(e:r.op=.load w t){n:s}(a:wm ag F h w t=b (n,cl))(g:V cl):aR P r (bA F) h n h:=by
 unfold wm at a;split at a
 .rename_i y d;split at a
  .rename_i l X o f x u;split at a
   .rename_i T v p es ao;split at a
    .rename_i cI;have q:=c1 cI;subst q;split at a
     .rename_i q j;cases a;exact aR.jk aG e u g.1 (dL ao) d j g.2
     grind
    grind
   grind
  grind
 grind
theorem U4(aG:bT P ag){A B:Z}(j:r.op=.store w A B){z:s}(a:BB ag F h w A B=b (z,aO,cl))(q:V cl):aR P r (bA F) h z aO:=by
 unfold BB at a;split at a
 .rename_i E g;split at a
  .rename_i l X o f t u;split at a
   .rename_i T v p es ao;split at a
    .rename_i cI;have C:=c1 cI;subst C;split at a
     .rename_i new n;split at a
      .rename_i y;split at a
       .rename_i jK d;split at a
        .rename_i D;rw[gO,lB]at a;cases a;have x:t=0/\c jK=v:=by
          cases t with
          |zero=>exact⟨rfl,c1 D⟩
          |succ t=>exact cF
         obtain⟨rfl,x⟩:=x;exact aR.hH aG j u q.1 (dL ao) g n (c1 y) d (λI=>H9 J) q.2
        split at a
        .rename_i ci e;rw[gO,lB]at a;cases a;exact aR.hH aG j u q.1 (dL ao) g n (c1 y) d (λ_=>e) q.2
        grind
       grind
      grind
     grind
    grind
   grind
  grind
 grind
theorem S7(aG:bT P ag)(l:a3 q CT){e:s}(a:n2 ag CT F h r=b (e,cl))(g:V cl)(o:∀h f d,bQ B h f F d->aS r (yielded all.toArray d.tmps)=i):a0 q B all r F h e h:=by
 unfold n2 at a;split at a
 .rename_i w p n;split at a
  .rename_i X j;cases a;unfold Ax at j;split at j
   .grind [a0.aT,aR.g6,dL,aR.g8]
   grind
  grind[a0.aT,Sv]
 grind[S5,a0.aT,S0]
theorem S1(aG:bT P ag)(p:a3 q CT){e:s}(f:AR ag CT F h r=b (e,aO,cl))(l:V cl)(o:∀h j a,bQ B h j F a->aS r (yielded all.toArray a.tmps)=i):a0 q B all r F h e aO:=by
 unfold AR at f;split at f
 .grind [a0.aT,AQ]
 .grind [a0.aT,AQ]
 .grind [a0.aT,AQ,U4]
 .rename_i u g;obtain⟨n,args,d⟩:=u;grind[ys,a0.aT,MG,a0.call]
 grind
def MH{j n:Z}{d:bh}{g:s}(t:h9 P r j n T d)(a:yo T d η h j n=b (g,aO,cl))(q:V cl):aR P r η h g aO:=by
 unfold yo at a;split at a
 .rename_i l X o f B z A y Q N F;split at a
  .cases a
  rename_i u;have e:=c1 u;subst e;split at a
  .rename_i D O p es e4;split at a
   .rename_i w rQ rR A';have v:=c1 w;have M:=c1 rQ;have x:=c1 rR;have I:=c1 A';rw[gO]at a;cases a;obtain⟨C,K,E,J⟩:=q;subst C K v M x I;have:=aR.hX (h:=h) t N F (dL e4) E J;grind[lB]
   grind
  grind
 grind
theorem MI(aG:bT P ag){D:Bool}{n q:Z}{t2:ab}{j:s}(d:r.op=.call {callee:=.builtin .append,args:=#[n,q],argTypes:=#[w,t2]})(a:yp D ag η h n q w t2=b (j,aO,cl))(g:V cl):aR P r η h j aO:=by
 unfold yp at a;split at a
 .split at a
  .cases a
  rename_i t z E l e;obtain⟨u,B,v⟩:=yq aG d e;split at a
  .rename_i o p es f;split at a
   .rename_i X;have x:=c1 X;subst x;rw[gO]at a;cases a;exact aR.hZ u f (λA C=>v _ A C) g
   grind
  grind
 split at a
 .cases a
 rename_i y;exact MH (CY aG d y) a g
theorem S4(aG:bT P ag)(t:a3 q CT){a:s}(d:tU bK ag CT F h r=b (a,aO,cl))(n:V cl)(p:∀h l e,bQ B h l F e->aS r (yielded all.toArray e.tmps)=i):a0 q B all r F h a aO:=by
 have key:∀g,wJ g ag F h r=b (a,aO,cl)->a0 q B all r F h a aO:=by
  intro g d;unfold wJ at d;split at d
  .rename_i u j;obtain⟨o,args,f⟩:=u;grind[ys,a0.aT,MI]
  grind
 unfold tU at d;grind[S1]
def h1(aG:bT P ag)(O:a3 q CT){n:s}{aO:Option (e Y)}(a:gS ag CT bK all F h r=b (n,aO,cl))(D:V cl):a0 q B all r F h n (aO.getD h):=by
 have go:(∀h j g,bQ B h j F g->aS r (yielded all.toArray g.tmps)=i)->(match n2 ag CT F h r with
  |some (d,cl)=>match tj bK r.dst d cl with
   |some (o,A)=>nO o λo=>b (o,k,A)
   |none=>k
  |none=>match Ap bK r.dst with
   |true=>match AP ag F r with
    |some (d,cl)=>nO d λd=>b (d,k,cl)
    |none=>k
   |false=>match tU bK ag CT F h r with
    |some (d,aO,cl)=>nO d λd=>b (d,b aO,cl)
    |none=>k)=b (n,aO,cl)->a0 q B all r F h n (aO.getD h):=by
  intro C a;split at a
  .rename_i d f K;split at a
   .rename_i o M E;rw[tu]at a;cases a;obtain⟨rfl,Q⟩:=NE E D;grind[S7]
   grind
  split at a
  .split at a
   .rename_i d f p;rw[tu]at a;cases a;unfold AP at p;split at p
    .rename_i u z;obtain⟨N,args,v⟩:=u;grind[ys,MF]
    grind
   grind
  grind[tu,S4]
 unfold gS at a;simp only at a;split at a
 .grind [jZ]
 rename_i J w x;split at a
 .rename_i y t;have I:∀h j g,bQ B h j F g->aS r (yielded all.toArray g.tmps)=(b y==b w):=λh j g l=>by simp only[aS,x,v' t l]
  split at a
  .grind
  .grind
  cases a;refine a0.hp (λh j g l=>(I h j g l).trans ?_);cases w<;>cases y<;>simp_all
 .rename_i t;cases a;exact a0.hp (λh j g l=>by simp only[aS,x,v' t l];rfl)
 grind
end
variable {CT:e (Nat×bB)}{ax:e dz}{a7:dn}{ag:e (Nat×bh)}{bz:bh}
def lp(a:bd)(d:ah):Bool:=match d.op with
 |.load _ e=>match bA a e with
  |.k (.S (.c (.U _)))=>m
  |_=>i
 |_=>m
def S6{iD:e Y}(f:lp F r=m):n2 ag CT F h r=n2 ag CT F iD r:=by
 unfold n2;split
 .rename_i w g a;simp only[lp,a]at f;split at f
  .rename_i aY d;simp only[Ax,wm,d]
  grind
 simp
def S8{f:s}(o:lp F r=m)(a:gS ag CT bK all F h r=b (f,k,cl))(iD:e Y):
  gS ag CT bK all F iD r=b (f,k,cl):=by
 unfold gS at a⊢;simp only at a⊢;rw[S6 (iD:=h) o];cases n:n2 ag CT F h r with
 |some p=>grind
 |none=>
  simp only[n]at a⊢;cases l:Ap bK r.dst with
  |true=>grind
  |false=>
   simp only[l]at a⊢;have key:∀{j:Option (s×Option (e Y)×e Prop)},(match tU bK ag CT F h r with|some (g,d,cl)=>nO g λg=>b (g,b d,cl)|none=>k)=j->j≠b (f,k,cl):=by grind[tu]
   split at a
   .grind
   grind
def iR(a:Nat):e ah->Bool
 |[]=>m
 |g::d=>match g.dst with
  |some f=>match aa f a with|true=>i|false=>iR a d
  |none=>iR a d
theorem tz{h:Nat}:∀{l:e ah}{f:Nat}{a:ah},l[f]?=b a->a.dst=b h->iR h l=i
 |[],_,_,n,_=>by grind
 |j::g,0,a,n,d=>by simp at n;subst n;simp[iR,d,sU]
 |j::g,f+1,a,n,d=>by have:=tz (l:=g) so d;simp only[iR];grind
theorem Ae{g:Nat}:∀{d:e ah},iR g d=i->∃(f:Nat)(r:ah),d[f]?=b r/\r.dst=b g
 |[],n=>by cases n
 |h::p,n=>by
  simp only[iR]at n;split at n
  .rename_i l u;split at n
   .rename_i o;exact⟨0,h,a,by grind[Nat.eq_of_beq_eq_true]⟩
   exact Lo
  exact Lo
def ko:e ah->Bool
 |[]=>i
 |f::a=>match f.dst with
  |some d=>match iR d a with|true=>m|false=>ko a
  |none=>ko a
theorem AN{q:Nat}:∀{o:e ah}{h j:Nat}{d f:ah},ko o=i->o[h]?=b d->o[j]?=b f->d.dst=b q->f.dst=b q->h=j
 |[],_,_,_,_,_,u,_,_,_=>by grind
 |p::g,0,0,_,_,_,_,_,_,_=>rfl
 |p::g,0,j+1,d,f,a,l,n,d1,d2=>by simp at l;subst l;simp only[ko,d1]at a;grind[tz]
 |p::g,h+1,0,d,f,a,l,n,d1,d2=>by simp at n;subst n;simp only[ko,d2]at a;grind[tz]
 |p::g,h+1,j+1,d,f,a,l,n,d1,d2=>by
  have:ko g=i:=by simp only[ko]at a;grind
  have s:g[h]?=b d:=J;have r:g[j]?=b f:=J;have t:=AN this s r d1 d2;omega
def lA(a:e ah):bd->bd
 |[]=>[]
 |(f,g)::d=>match iR f a with|true=>lA a d|false=>(f,g)::lA a d
def rC{a:e ah}{d:Nat}:∀{g:bd},look (lA a g) d=if iR d a=i then .any else look g d
 |[]=>by simp[lA,look]
 |(f,o)::p=>by
  simp only[lA];by_cases l:aa f d=i
  .have n:=c1 l;subst n;cases j:iR f a with
   |true=>simp only;rw[rC];grind
   |false=>simp[look]
  have h:aa f d=m:=J;cases j:iR f a with
  |true=>simp only;rw[rC];simp[look,h]
  |false=>simp only[look,h,cond];rw[rC]
def c7:e Edge->e Nat
 |[]=>[]
 |d::a=>match d.ground with
  |.textOnly _=>c7 a
  |.gcOnly _=>c7 a
  |_=>d.on::c7 a
theorem kL{y:Nat}:∀{l:e Edge},y∈c7 l↔∃a∈l,eD a=i/\a.on=y
 |[]=>by simp[c7]
 |a::f=>by
  have n:=kL (y:=y) (l:=f);have h:c7 (a::f)=a.on::c7 f->eD a=i->(y∈c7 (a::f)↔∃d∈a::f,eD d=i/\d.on=y):=J;have g:c7 (a::f)=c7 f->eD a=m->(y∈c7 (a::f)↔∃d∈a::f,eD d=i/\d.on=y):=J;cases t:a.ground with
  |textOnly j=>exact g Cs L0
  |gcOnly j=>exact g Cs L0
  |_=>exact h Cs (by unfold eD Region.binds;rw[t])
def me(a d:Nat):e ah->Bool
 |[]=>m
 |g::f=>match g.dst with
  |some h=>match aa h d with
   |true=>match eW a (c7 g.after.toList)with
    |true=>me a d f
    |false=>i
   |false=>me a d f
  |none=>me a d f
def FO{j l:Nat}:∀{n:e ah},me j l n=m->∀(f:Nat)(a:ah),n[f]?=b a->a.dst=b l->eW j (c7 a.after.toList)=i
 |[],_,f,a,d,_=>by grind
 |p::o,d,0,a,h,g=>by simp at h;subst h;simp only[me,g,sU]at d;grind
 |p::o,d,f+1,a,h,g=>by
  have:me j l o=m:=by simp only[me]at d;grind
  exact FO this f a J g
def na(a:e ah):bd->e (Nat×s×Bool)
 |[]=>[]
 |(d,f)::g=>match iR d a with
  |true=>(d,f,i)::na a g
  |false=>(d,f,m)::na a g
def gx(d:Nat)(a:e ah):e (Nat×s×Bool)->bd
 |[]=>[]
 |(g,h,j)::f=>match j with
  |false=>(g,h)::gx d a f
  |true=>match me d g a with
   |true=>gx d a f
   |false=>(g,h)::gx d a f
def Gq{f:Nat}{all:e ah}{w:Nat}:∀{F:bd},look (gx f all (na all F)) w=if iR w all=i/\me f w all=i then .any else look F w
 |[]=>by simp[na,gx,look]
 |(bk,d)::a=>by
  have j:=Gq (f:=f) (all:=all) (w:=w) (F:=a);have h:look ((bk,d)::gx f all (na all a)) w=if aa bk w=i then d else look (gx f all (na all a)) w:=LR;have g:look ((bk,d)::a) w=if aa bk w=i then d else look a w:=LR;cases t:iR bk all with
  |false=>
   simp only[na,t,gx];exact uA
  |true=>
   cases ak:me f bk all with
   |true=>
    exact Jx
   |false=>
    exact Jx
def fq(f:Nat->Bool):Nat->e (Option Nat×s)->bd->bd
 |_,[],a=>a
 |d,(h,l)::g,a=>match f d with
  |true=>match h with
   |some j=>(j,l)::fq f (d+1) g a
   |none=>fq f (d+1) g a
  |false=>fq f (d+1) g a
def tM{a2:Nat->Bool}{F:bd}{w:Nat}:∀{l:e (Option Nat×s)}{f:Nat},(∃y d,l[y]?=b (b w,d)/\a2 (f+y)=i/\look (fq a2 f l F) w=d)∨look (fq a2 f l F) w=look F w
 |[],f=>.inr rfl
 |(h,d)::g,f=>by
  have u:=tM (a2:=a2) (F:=F) (w:=w) (l:=g) (f:=f+1);have step:look (fq a2 f ((h,d)::g) F) w=look (fq a2 (f+1) g F) w->((∃y j,((h,d)::g)[y]?=b (b w,j)/\a2 (f+y)=i/\look (fq a2 f ((h,d)::g) F) w=j)∨look (fq a2 f ((h,d)::g) F) w=look F w):=by
   intro o;rw[o];rcases u with⟨y,j,r,p,X⟩|x
   .exact .inl ⟨y+1,j,by grind,by grind,X⟩
   grind
  cases n:a2 f with
  |false=>exact step (by simp[fq,n])
  |true=>
   cases h with
   |none=>exact step (by simp[fq,n])
   |some q=>
    by_cases v:aa q w=i
    .have o:=c1 v;subst o;exact .inl ⟨0,d,a,by grind,by simp[fq,n,look]⟩
    have t:aa q w=m:=J;exact step (by simp[fq,n,look,t])
structure i4 where
 bc:Nat
 pre:e (Option Nat×s)
 d:e Y
 bX:e (e Bool)
 c_:e Bool
 dd:e Bool
 b7:e Prop
def rE(a:Nat):e Nat->Bool
 |[]=>i
 |d::f=>match Nat.blt d a with|true=>rE a f|false=>m
def Ay{g:Nat}:∀{h:e Nat},rE g h=i->∀f∈h,f<g
 |[],_,f,d=>by grind
 |l::n,d,f,a=>by
  simp only[rE]at d;cases j:Nat.blt l g with
  |false=>grind
  |true=>
   simp only[j]at d;rcases ef.1 a with rfl|a
   .simp_all
   exact Ay d f a
def fS:e Bool->Nat->Bool
 |[],_=>m
 |a::_,0=>a
 |_::f,d+1=>fS f d
def iW:e Bool->e Bool->e Bool
 |[],d=>d
 |true::a,[]=>i::a
 |false::a,[]=>m::a
 |true::a,_::d=>i::iW a d
 |false::a,i::d=>i::iW a d
 |false::a,m::d=>m::iW a d
def oG:∀{a d:e Bool}{f:Nat},fS (iW a d) f=(fS a f||fS d f)
 |[],d,f=>by exact cF
 |true::a,[],f=>by simp[iW,fS]
 |false::a,[],f=>by simp[iW,fS]
 |true::a,g::d,0=>by exact cF
 |true::a,g::d,f+1=>by simp only[iW,fS];exact oG
 |false::a,i::d,0=>by exact cF
 |false::a,i::d,f+1=>by simp only[iW,fS];exact oG
 |false::a,m::d,0=>by exact cF
 |false::a,m::d,f+1=>by simp only[iW,fS];exact oG
def mm:Nat->e Bool
 |0=>[i]
 |a+1=>m::mm a
theorem vm:∀{d a:Nat},fS (mm d) a=decide (d=a)
 |0,0=>rfl
 |0,a+1=>by exact cF
 |d+1,0=>by exact cF
 |d+1,a+1=>by simp only[mm,fS,vm];simp
def kB(a:e (e Bool)):e Nat->e Bool
 |[]=>[]
 |d::f=>match cH d a with
  |some g=>iW (iW g (mm d)) (kB a f)
  |none=>iW (mm d) (kB a f)
theorem zf{j:e (e Bool)}{h:Nat}:∀{o:e Nat},fS (kB j o) h=i->∃g∈o,g=h∨∃f,j[g]?=b f/\fS f h=i
 |[],d=>by exact cF
 |g::p,d=>by
  simp only[kB,ki]at d;have mv:∀{n:Nat},fS (mm g) n=i->g=n:=by grind[vm]
  have l:fS (kB j p) h=i->∃a∈g::p,a=h∨∃f,j[a]?=b f/\fS f h=i:=by intro d;obtain⟨a,q,s⟩:=zf d;grind
  split at d
  .rename_i f r;rw[oG,oG,hP,hP]at d;grind
  rw[oG,hP]at d;grind
def oe:e Bool->e Bool->Bool
 |[],_=>i
 |true::a,i::d=>oe a d
 |true::_,_=>m
 |false::a,_::d=>oe a d
 |false::a,[]=>oe a []
theorem r4:∀{d f:e Bool}{y:Nat},oe d f=i->fS d y=i->fS f y=i
 |[],f,y,_,a=>by exact cF
 |true::d,i::f,0,_,_=>rfl
 |true::d,i::f,y+1,g,a=>by simp only[fS]at a⊢;exact r4 cF a
 |true::d,m::f,y,g,_=>by exact cF
 |true::d,[],y,g,_=>by exact cF
 |false::d,h::f,0,_,a=>by exact cF
 |false::d,h::f,y+1,g,a=>by simp only[fS]at a⊢;exact r4 cF a
 |false::d,[],0,_,a=>by exact cF
 |false::d,[],y+1,g,a=>by simp only[fS]at a;have:=r4 (y:=y) (by simpa[oe]using g) a;exact cF
def od(w:e (Nat×bh))(p:e (Nat×bB))(v:Nat)(r:e (Nat×Bool))(g:e ah)(o:e (Nat×s×Bool))(a:i4)(n:ah):Option i4:=
 match eU v n.dst with
 |false=>k
 |true=>
  eL (c7 n.after.toList) λj=>
  match rE a.bc j with
  |false=>k
  |true=>match gS w p r g (fq (λt=>eW t j) 0 a.pre (gx a.bc g o)) a.d n with
   |none=>k
   |some (u,l,d)=>
    eL (kB a.bX j) λh=>
    match l,lp (fq (λt=>eW t j) 0 a.pre (gx a.bc g o)) n with
    |none,m=>eL (a.pre++[(n.dst,u)]) λpre=>eL (a.bX++[h]) λf=>eL (gh d a.b7) λd=>b ⟨a.bc+1,pre,a.d,f,a.c_,a.dd,d⟩
    |none,i=>match oe a.c_ h with
     |true=>eL (a.pre++[(n.dst,u)]) λpre=>eL (a.bX++[h]) λf=>eL (gh d a.b7) λd=>eL (iW a.dd (mm a.bc)) λq=>b ⟨a.bc+1,pre,a.d,f,a.c_,q,d⟩
     |false=>k
    |some l,_=>match oe a.dd h with
     |true=>eL (a.pre++[(n.dst,u)]) λpre=>eL (a.bX++[h]) λf=>eL (gh d a.b7) λd=>eL (iW a.dd (mm a.bc)) λq=>eL (iW a.c_ (mm a.bc)) λx=>b ⟨a.bc+1,pre,l,f,x,q,d⟩
     |false=>k
def wZ(n:e (Nat×bh))(f:e (Nat×bB))(l:Nat)(h:e (Nat×Bool))(a:e ah)(g:e (Nat×s×Bool)):e ah->i4->Option i4
 |[],d=>b d
 |o::p,d=>match od n f l h a g d o with
  |some j=>wZ n f l h a g p j
  |none=>k
def vN(o:e (Nat×bh))(f:e (Nat×bB))(n:Nat)(j:e (Nat×Bool))(a:e ah)(l:bd)(p:e Y):Option (bd×e Y×e Prop):=
 match ko a with
 |false=>k
 |true=>eL (na a l) λh=>match wZ o f n j a h a ⟨0,[],p,[],[],[],[]⟩with
  |some d=>eL (fq (λ_=>i) 0 d.pre (lA a l)) λg=>b (g,d.d,d.b7)
  |none=>k
def fx:ah:=⟨k,.move (.tmp 0),0,"",#[],k⟩
section
variable (ag:e (Nat×bh))(CT:e (Nat×bB))(B:Nat)(bK:e (Nat×Bool))(all:e ah)(cC:e (Nat×s×Bool))
def iM(a:i4):Nat->i4
 |0=>a
 |d+1=>(od ag CT B bK all cC (iM a d) (all.getD d fx)).getD (iM a d)
def oT(a:i4)(d:Nat):bd:=fq (λe=>eW e (c7 (all.getD d fx).after.toList)) 0 (iM ag CT B bK all cC a d).pre (gx (iM ag CT B bK all cC a d).bc all cC)
def wX(a:i4)(d:Nat):Option (s×Option (e Y)×e Prop):=gS ag CT bK all (oT ag CT B bK all cC a d) (iM ag CT B bK all cC a d).d (all.getD d fx)
def sc(a:i4)(d:Nat):s:=match wX ag CT B bK all cC a d with|some (e,_,_)=>e|none=>.any
def ij(a:i4)(d:Nat):Bool:=match wX ag CT B bK all cC a d with|some (_,b _,_)=>i|_=>m
def oV(a:i4)(d:Nat):Bool:=!lp (oT ag CT B bK all cC a d) (all.getD d fx)&&!ij ag CT B bK all cC a d
def oL(a:i4)(d:Nat):e Bool:=kB (iM ag CT B bK all cC a d).bX (c7 (all.getD d fx).after.toList)
end
section
variable {ag:e (Nat×bh)}{CT:e (Nat×bB)}{B:Nat}{bK:e (Nat×Bool)}{all:e ah}{cC:e (Nat×s×Bool)}
structure CF(ag:e (Nat×bh))(CT:e (Nat×bB))(B:Nat)(bK:e (Nat×Bool))(all:e ah)(cC:e (Nat×s×Bool))(cK qj:i4)(r:ah)(A:s)(aO:Option (e Y))(b7:e Prop):Prop where
 dst:eU B r.dst=i
 lt:rE cK.bc (c7 r.after.toList)=i
 op:gS ag CT bK all (fq (λy=>eW y (c7 r.after.toList)) 0 cK.pre (gx cK.bc all cC)) cK.d r=b (A,aO,b7)
 bc:qj.bc=cK.bc+1
 pre:qj.pre=cK.pre++[(r.dst,A)]
 bX:qj.bX=cK.bX++[kB cK.bX (c7 r.after.toList)]
 d:qj.d=aO.getD cK.d
 b7:qj.b7=gh b7 cK.b7
 ik:qj.c_=if aO.isSome=i then iW cK.c_ (mm cK.bc)else cK.c_
 ju:qj.dd=if(lp (fq (λy=>eW y (c7 r.after.toList)) 0 cK.pre (gx cK.bc all cC)) r||aO.isSome)=i then iW cK.dd (mm cK.bc)else cK.dd
 load:lp (fq (λy=>eW y (c7 r.after.toList)) 0 cK.pre (gx cK.bc all cC)) r=i->aO.isSome=m->oe cK.c_ (kB cK.bX (c7 r.after.toList))=i
 br:aO.isSome=i->oe cK.dd (kB cK.bX (c7 r.after.toList))=i
def Ia{h j:i4}(d:od ag CT B bK all cC h r=b j):∃o e g,CF ag CT B bK all cC h j r o e g:=by
 unfold od at d;split at d
 .cases d
 rename_i n;simp only[gO]at d;split at d
 .cases d
 rename_i l;split at d
 .cases d
 rename_i o e g f;refine⟨o,e,g,?_⟩;cases e with
 |none=>
  cases p:lp (fq (λq=>eW q (c7 r.after.toList)) 0 h.pre (gx h.bc all cC)) r with
  |false=>
   simp only[p,gO]at d;cases d;exact⟨n,l,f,a,a,a,a,a,by simp,by grind,by grind,by simp⟩
  |true=>
   simp only[p,gO]at d;split at d
   .rename_i u;cases d;exact⟨n,l,f,a,a,a,a,a,by simp,by grind,λ_ _=>u,by simp⟩
   grind
 |some e=>
  simp only[gO]at d;split at d
  .rename_i u;cases d;exact⟨n,l,f,a,a,a,a,a,by simp,by simp,by simp,λ_=>u⟩
  grind
def HH{cK f:i4}:∀{bw:e ah}{o:Nat},(∀a,bw[a]?=all[o+a]?)->wZ ag CT B bK all cC bw (iM ag CT B bK all cC cK o)=b f ->
  (∀a h,bw[a]?=b h->od ag CT B bK all cC (iM ag CT B bK all cC cK (o+a)) h=b (iM ag CT B bK all cC cK (o+a+1)))/\iM ag CT B bK all cC cK (o+c bw)=f
 |[],o,_,d=>by cases d;grind
 |q::r,o,g,d=>by
  simp only[wZ]at d;have n:all[o]?=b q:=by have:=g 0;grind
  split at d
  .rename_i j l;have p:iM ag CT B bK all cC cK (o+1)=j:=by simp only[iM,av,n,hO,l]
   rw[<-p]at d;obtain⟨t,s⟩:=HH (bw:=r) (o:=o+1) (λa=>by have:=g (a+1);grind) d;grind
  grind
theorem tN:∀{a:e Nat},eW y a=i->y∈a:=by
 intro a;induction a with
 |nil=>intro d;cases d
 |cons f h g=>
  intro d;simp only[eW]at d;exact uA
def NI{aR:al P}(a8:P.follows Departure.mixedOrders=i)(aG:bT P ag)(aT:a3 aR CT){aQ:bd}(t:vN ag CT B bK aP.toList F h=b (aQ,aO,cl))(bJ:V cl){aq:dn}(bC:aq .normal aQ aO)(id:Nat):
  bX aR B (.region id aP i) aq F h:=by
 unfold vN at t;split at t
 .cases t
 rename_i bk;rw[gO]at t;split at t
 case h_2=>cases t
 rename_i ae aC;rw[gO]at t;cases t;generalize bD:aP.toList=e at *;generalize aE:na e F=cC at *;have bq:∀f:Nat,aP[f]?=e[f]?:=λf=>by grind
 have bc:aP.size=c e:=J;let n:i4:=⟨0,[],h,[],[],[],[]⟩
 obtain⟨bU,bV⟩:=HH (ag:=ag) (CT:=CT) (B:=B) (bK:=bK) (cC:=cC) (cK:=n) (bw:=e) (o:=0) (λf=>by simp) aC;simp only[cX]at bU bV;let j:=iM ag CT B bK e cC n;have aL:∀f r,e[f]?=b r->e.getD f fx=r:=λf r t=>by grind
 have af:∀f r,e[f]?=b r->oT ag CT B bK e cC n f=(fq (λg=>eW g (c7 (r).after.toList)) 0 (j f).pre (gx (j f).bc e cC)):=λf r t=>by unfold oT;grind
 have A:∀f r,e[f]?=b r->∃bm,CF ag CT B bK e cC (j f) (j (f+1)) r (sc ag CT B bK e cC n f) (if ij ag CT B bK e cC n f=i then b (j (f+1)).d else k) bm:=by
  intro f r cO;obtain⟨aM,Y,bm,p⟩:=Ia (bU f r cO);have aK:=p.op;have ay:wX ag CT B bK e cC n f=b (aM,Y,bm):=by unfold wX oT;grind
  have bO:sc ag CT B bK e cC n f=aM:=by unfold sc;rw[ay]
  cases Y with
  |none=>
   have C:ij ag CT B bK e cC n f=m:=by unfold ij;rw[ay]
   grind
  |some br=>
   have C:ij ag CT B bK e cC n f=i:=by unfold ij;rw[ay]
   have bP:(j (f+1)).d=br:=p.d;grind
 have bo:∀f,f<=c e->(j f).bc=f:=by
  intro f;induction f with
  |zero=>intro _;rfl
  |succ f D=>
   intro bL;obtain⟨_,p⟩:=A f _ (bu x);rw[p.bc,D x]
 have T:∀f,f<=c e->∀g,(j f).pre[g]?=if g<f then(e[g]?).map (λr=>(r.dst,sc ag CT B bK e cC n g))else k:=by
  intro f;induction f with
  |zero=>intro _ g;exact cF
  |succ f D=>
   intro bL g;obtain⟨_,p⟩:=A f _ (bu x);have R:(j f).pre.length=f:=by
    apply Nat.le_antisymm
    .grind
    grind
   rw[p.pre];grind
 have aw:∀f,f<=c e->∀g,(j f).bX[g]?=if g<f then b (oL ag CT B bK e cC n g)else k:=by
  intro f;induction f with
  |zero=>intro _ g;exact cF
  |succ f D=>
   intro bL g;obtain⟨_,p⟩:=A f _ (bu x);have R:(j f).bX.length=f:=by
    apply Nat.le_antisymm
    .apply Nat.le_of_not_lt;intro aJ;have:=D x f;grind
    grind
   rw[p.bX];by_cases O:g<f
   .grind
   rw[gK x];by_cases q:g=f
   .subst q;rw[bF x,R,Nat.sub_self];simp only[j6,oL,aL g _ (bu (by omega:g<c e))];rfl
   grind
 have bx:∀f,f<=c e->∀g,fS (j f).c_ g=(decide (g<f)&&ij ag CT B bK e cC n g):=by
  intro f;induction f with
  |zero=>intro _ g;exact cF
  |succ f D=>
   intro bL g;obtain⟨_,p⟩:=A f _ (bu x);rw[p.ik];cases C:ij ag CT B bK e cC n f with
   |false=>
    grind
   |true=>
    simp only[cN,Option.isSome_some];rw[oG,D x g,vm,bo f x];by_cases q:g=f
    .grind
    grind
 have bf:∀f,f<=c e->∀g,fS (j f).dd g=(decide (g<f)&&!oV ag CT B bK e cC n g):=by
  intro f;induction f with
  |zero=>intro _ g;exact cF
  |succ f D=>
   intro bL g;obtain⟨_,p⟩:=A f _ (bu x);have ad:(if ij ag CT B bK e cC n f=i then b (j (f+1)).d else k).isSome=ij ag CT B bK e cC n f:=by cases ij ag CT B bK e cC n f<;>rfl
   have ak:oV ag CT B bK e cC n f=!(lp (fq (λg=>eW g (c7 (e[f]'x).after.toList)) 0 (j f).pre (gx (j f).bc e cC)) (e[f]'x)||ij ag CT B bK e cC n f):=by unfold oV;rw[af f _ (bu x),aL f _ (bu x)];simp
   rw[p.ju,ad];cases C:(lp (fq (λg=>eW g (c7 (e[f]'x).after.toList)) 0 (j f).pre (gx (j f).bc e cC)) (e[f]'x)||ij ag CT B bK e cC n f)with
   |false=>
    grind
   |true=>
    simp only[cN];rw[oG,D x g,vm,bo f x];by_cases q:g=f
    .grind
    grind
 have S:∀f,f<=c e->V (j f).b7:=by
  have au:∀o f,f+o=c e->V (j f).b7:=by
   intro o;induction o with
   |zero=>
    grind
   |succ o D=>
    intro f bL;obtain⟨_,p⟩:=A f _ (bu x);have:=D (f+1) x;rw[p.b7,V.W]at this;exact this.2
  intro f bL;exact au (c e-f) f x
 have b7:∀f r,e[f]?=b r->a0 aR B e r (oT ag CT B bK e cC n f) (j f).d (sc ag CT B bK e cC n f) (j (f+1)).d:=by intro f r cO;have bL:f<c e:=(cD.1 cO).1;obtain⟨_,p⟩:=A f r cO;have m3:=S (f+1) x;rw[p.b7,V.W]at m3;have:=h1 (P:=P) (B:=B) aG aT p.op m3.1;rw[p.d];grind
 let idx:Nat->Option Nat:=λw=>(aI (c e)).find? (λf=>decide ((e.getD f fx).dst=b w));have b8:∀w g,idx w=b g->∃r,e[g]?=b r/\r.dst=b w:=J;have bS:∀f r ax,e[f]?=b r->r.dst=b ax->idx ax=b f:=by
  intro f r ax cO M;have bL:f<c e:=(cD.1 cO).1;cases bO:idx ax with
  |none=>
   grind
  |some g=>
   grind[AN]
 have b':∀w,iR w e=i↔∃g,idx w=b g:=by grind[Ae,tz]
 have b_:∀f r,e[f]?=b r->∀q∈r.after,eD q=i->q.on<f:=by intro f r cO q C W;have bL:f<c e:=(cD.1 cO).1;obtain⟨_,p⟩:=A f r cO;have:=Ay p.lt q.on (kL.2 ⟨q,by grind,W,rfl⟩);grind
 have bj:=b_;have M:pr aR B aP F (λf=>(j f).d) (sc ag CT B bK e cC n) (oT ag CT B bK e cC n) (oV ag CT B bK e cC n) (λf=>decide (f<c e)&&ij ag CT B bK e cC n f) (λf g=>f<c e/\fS (oL ag CT B bK e cC n f) g=i) idx (fq (λ_=>i) 0 ae.pre (lA e F)):=by
  refine⟨a8,J,?_,?_,?_,?_,?_,?_,?_,?_,?_⟩
  .intro f r ax cO M;rw[bq]at cO;obtain⟨_,p⟩:=A f r cO;exact⟨bS f r ax cO M,kE p.dst ax M⟩
  .grind
  .intro f C;rcases dJ f (c e) with bL|bL
   .obtain⟨_,p⟩:=A f _ (bu bL);have:ij ag CT B bK e cC n f=m:=J;have b6:=p.d;grind
   have bz:e.getD f fx=fx:=J;show(j (f+1)).d=(j f).d;have:od ag CT B bK e cC (j f) fx=k∨∃aH,od ag CT B bK e cC (j f) fx=b aH:=by
    cases od ag CT B bK e cC (j f) fx with
    |none=>grind
    |some aH=>grind
   show((od ag CT B bK e cC (j f) (e.getD f fx)).getD (j f)).d=(j f).d;rw[bz];rcases this with t|⟨aH,t⟩
   .grind
   rw[t];obtain⟨aM,Y,bQ,p⟩:=Ia t;have aK:=p.op;have:Y=k:=by unfold gS at aK;simp only[fx,n2,wI,tj,tu]at aK;grind
   rw[hO,p.d,this];rfl
  .grind
  .intro f r cO ab;rw[bq]at cO;have bL:f<c e:=(cD.1 cO).1;have aF:lp (fq (λg=>eW g (c7 (r).after.toList)) 0 (j f).pre (gx (j f).bc e cC)) r=m/\ij ag CT B bK e cC n f=m:=by unfold oV at ab;grind
   refine⟨by grind,λo=>?_⟩;obtain⟨bQ,p⟩:=A f r cO;have aK:=p.op;rw[aF.2]at aK;have aB:=S8 aF.1 (by simpa using aK) (j o).d;have m3:=S (f+1) x;rw[p.b7,V.W]at m3;have:=h1 (P:=P) (B:=B) aG aT aB m3.1;grind
  .intro L cf f g ⟨bL,W⟩;have ah:∀f,f<c e->L f->∀q,q∈c7 (e.getD f fx).after.toList->L q:=by intro f bL aj q C;rw[aL f _ (bu bL)]at C;obtain⟨bt,s,u,rfl⟩:=kL.1 C;grind
   have key:∀f,f<c e->∀g,fS (oL ag CT B bK e cC n f) g=i->(∀q∈c7 (e.getD f fx).after.toList,L q)->L g:=by
    intro f;induction f using Nat.strongRecOn with
    |_ f D=>
     intro bL g W aV;obtain⟨q,C,t⟩:=zf W;have aJ:q<f:=by have N:=C;rw[aL f _ (bu bL)]at N;obtain⟨bt,s,u,rfl⟩:=kL.1 N;grind
     rcases t with rfl|⟨bY,bG,a4⟩
     .grind
     have:=aw f x q;rw[bF aJ]at this;have a1:(j f).bX[q]?=b bY:=bG;rw[a1]at this;cases this;exact D q aJ x g a4 (ah q x (aV q C))
   refine⟨λaj=>key f bL g W (ah f bL aj),e[f],by grind,λbN=>key f bL g W ?_⟩;grind[List.getElem?_eq_getElem,kL]
  .intro f X bL y C b3 ao;rw[bc]at bL y;have N:ij ag CT B bK e cC n X=i:=J;rcases dJ X f with aJ|b2
   .refine .inl ⟨aJ,bL,?_⟩;obtain⟨_,p⟩:=A f _ (bu bL);have K:oL ag CT B bK e cC n f=kB (j f).bX (c7 (e[f]).after.toList):=by unfold oL;grind
    rw[K];cases a6:ij ag CT B bK e cC n f with
    |true=>
     have s:=p.br J;refine r4 s ?_;rw[bf f x X];have:oV ag CT B bK e cC n X=m:=by unfold oV;grind
     grind
    |false=>
     have a':lp (fq (λg=>eW g (c7 (e[f]).after.toList)) 0 (j f).pre (gx (j f).bc e cC)) e[f]=i:=by unfold oV at ao;rw[af f _ (bu bL),aL f _ (bu bL),a6]at ao;grind
     have s:=p.load a' J;grind[r4]
   have aJ:f<X:=x;refine .inr ⟨aJ,y,?_⟩;obtain⟨_,p⟩:=A X _ (bu y);have K:oL ag CT B bK e cC n X=kB (j X).bX (c7 (e[X]).after.toList):=by unfold oL;grind
   rw[K];have s:=p.br J;grind[r4]
  .intro f r cO w h d ai Z;rw[bq]at cO;have bL:f<c e:=(cD.1 cO).1;unfold oT;rw[aL f r cO];rcases tM (a2:=λg=>eW g (c7 r.after.toList)) (F:=gx (j f).bc e cC) (w:=w) (l:=(j f).pre) (f:=0)with⟨g,aM,s,u,v⟩|v
   .have I:look (fq (λg=>eW g (c7 r.after.toList)) 0 (iM ag CT B bK e cC n f).pre (gx (iM ag CT B bK e cC n f).bc e cC)) w=aM:=v;rw[I];have z:=T f x g;rw[s]at z;have O:g<f:=J;rw[bF O,bu (by omega:g<c e)]at z;simp only[lY,eA,k4]at z;obtain⟨bb,b5⟩:=z;have aN:=bS g _ w (bu (by omega:g<c e)) bb.symm;rw[aN]at Z;simp only at Z;rw[bF]at Z
    .grind
    have aA:g∈c7 r.after.toList:=by simp only[cX]at u;exact tN u
    obtain⟨q,bW,ca,bY⟩:=kL.1 aA;grind
   have I:look (fq (λg=>eW g (c7 r.after.toList)) 0 (iM ag CT B bK e cC n f).pre (gx (iM ag CT B bK e cC n f).bc e cC)) w=look (gx (j f).bc e cC) w:=v;rw[I,bo f x,<-aE,Gq];split
   .trivial
   rename_i b4;cases aN:idx w with
   |some g=>
    have cd:=(b' w).2 ⟨g,aN⟩;have bB:me f w e=m:=J;obtain⟨bg,ba,a5⟩:=b8 w g aN;have bI:=tN (FO bB g bg ba a5);obtain⟨q,C,W,heq⟩:=kL.1 bI;rw[aN]at Z;simp only at Z;split at Z
    ·
     rename_i a7;obtain⟨cc,b0,bZ,bH⟩:=a7;grind
    rw[bF ⟨bg,by grind,q,by grind,W,heq⟩]at Z;exact Z
   |none=>grind
  intro w h d ai Z;have bA:j (c e)=ae:=bV;rcases tM (a2:=λ_=>i) (F:=lA e F) (w:=w) (l:=ae.pre) (f:=0)with⟨g,aM,s,_,v⟩|v
  .rw[v];have z:=T (c e) (bE _) g;rw[bA,s]at z;have O:g<c e:=J;grind
  rw[v,rC];split
  .trivial
  grind
 intro d bW ak a_ ca cg cb b9 W aY;have aU:j aP.size=ae:=J;refine .next a λE H=>?_;have H:=aR.bt H;have G:=a_.rely H;have az:=ak.rely H a_;have U:cA h E h {E with a:={E.a with drawn:=E.a.drawn+1}}:=cA.same rfl rfl rfl rfl;have an:aZ h {E with a:={E.a with drawn:=E.a.drawn+1}}:=G.same rfl;have bh:=H.aH.trans (U.tolU G);refine⟨_,{E with a:={E.a with drawn:=E.a.drawn+1}},#[],Bo,⟨⟨h,h,G,an,U⟩,.nil⟩,?_⟩;simp only[Region.schedule,a8,Bool.true_or,cN];refine M.eE W (cy:={E with a:={E.a with drawn:=E.a.drawn+1}}) (λbR bs aS u ar=>?_) aP.size _ Q ?_ ?_ 0 _ bW x ?_ ?_ an (.refl _ _) _
 .simp only[aU]at aS u ar;exact aY .normal _ _ bR bs bC aS u (bh.trans ar)
 .simp
 .exact Cc
 .intro X y b1;exact uD
 have aF:=az.mono (U.tolU G) G.len;refine⟨aF.size,aF.defers,λw=>?_⟩;unfold fW;cases aN:idx w with
 |none=>exact aF.aC w
 |some g=>
  simp only;rw[bp]
  .exact aF.aC w
  exact uD
end
section
variable {q:al P}
theorem g.iq(f:P.follows Departure.mixedOrders=i)(aG:bT P ag)(d:a3 q CT){a:bd}{id:Nat}(j:vN ag CT B bK aP.toList F h=b (a,aO,cl))(e:V cl)(l:g q B a7 ax .normal a aO):g q B a7 (.code (.region id aP i)::ax) .normal F h:=
 NI f aG d j e l id
end
def qk(x:e (Nat×bh))(q:e (Nat×bB))(o:e (Nat×Bool))(w:Nat)(d:e dz)(a:bd)(g:e Y):Option (e dz×bd×e Y×e Prop):=
 match d with
 |[]=>k
 |.blk _::d=>b (d,a,g,[])
 |.ar _ []::d=>b (d,a,g,[])
 |.ar h (r::l)::d=>match eU w r.dst with
  |true=>match gS x q o h a g r with
   |some (p,k,f)=>eL (fy r.dst p a) λa=>b (.ar h l::d,a,g,f)
   |some (p,b n,f)=>eL (fy r.dst p a) λa=>b (.ar h l::d,a,n,f)
   |none=>k
  |false=>k
 |.code u::d=>match u with
  |.skip=>b (d,a,g,[])
  |.seq p v=>b (.code p::.code v::d,a,g,[])
  |.block id u=>b (.code u::.blk id::d,a,g,[])
  |.region id j y=>match tL o (id+900)with
   |some _=>k
   |none=>match y with
    |false=>b (.ar j.toList j.toList::d,a,g,[])
    |true=>match vN x q w o j.toList a g with
     |some (s,n,f)=>b (d,s,n,f)
     |none=>k
  |.exit id=>match hU id d with
   |some t=>b (t,a,g,[])
   |none=>k
  |.cond (.tmp z) p v=>match look a z with
   |.k (.S (.c (.bool i)))=>b (.code p::d,a,g,[])
   |.k (.S (.c (.bool m)))=>b (.code v::d,a,g,[])
   |_=>k
  |_=>k
theorem UZ{f:al P}(u:P.follows Departure.mixedOrders=i)(aG:bT P ag)(ak:a3 f CT){p:e dz}{a:bd}(n:qk ag CT bK B ax F h=b (p,a,aO,cl))(cO:V cl)(o:g f B a7 p .normal a aO):g f B a7 ax .normal F h:=by
 unfold qk at n;split at n
 .cases n
 .grind [g.h4]
 .grind [g.ho]
 .rename_i all r bw d;cases l:eU B r.dst with
  |false=>grind
  |true=>
   simp only[l]at n;have ac:=kE l;split at n
   .rename_i s q j;exact Lg
   .rename_i s a6 q j;exact Lg
   grind
 rename_i t d;split at n
 .grind [g.skip]
 .grind [g.seq]
 .grind [g.block]
 .grind [g.region,g.iq]
 .grind [g.exit]
 .grind [g.cond]
 grind
def jV(p:e (Nat×bh))(d:e (Nat×bB))(f:e (Nat×Bool))(o:Nat):Nat->e dz->bd->e Y->e Prop->Option (e dz×bd×e Y×e Prop)
 |0,h,g,j,a=>eL a λa=>b (h,g,j,a)
 |r+1,h,g,j,a=>match qk p d f o h g j with
  |some (q,l,n,s)=>jV p d f o r q l n (gh s a)
  |none=>eL a λa=>b (h,g,j,a)
def HG{P:aw}{w:al P}(A:P.follows Departure.mixedOrders=i){v:e (Nat×bh)}(aG:bT P v){j:e (Nat×bB)}(B:a3 w j){q:e (Nat×Bool)}{t:Nat}{o:dn}:∀{y:Nat}{n u:e dz}{l f:bd}{p h:e Y}{d a:e Prop},
  jV v j q t y n l p d=b (u,f,h,a)->V a->g w t o u .normal f h->g w t o n .normal l p/\V d
 |0,n,u,l,f,p,h,d,a,r,s,x=>by simp only[jV,gO]at r;grind
 |y+1,n,u,l,f,p,h,d,a,r,s,x=>by
  simp only[jV]at r;cases C:qk v j q t n l p with
  |none=>
   grind[gO]
  |some D=>
   obtain⟨F,E,z,K⟩:=D;simp only[C]at r;obtain⟨J,I⟩:=HG A aG B r s x;grind[V.W,UZ]
def g.aX{d:al P}(p:P.follows Departure.mixedOrders=i)(aG:bT P ag)(j:a3 d CT)(f:e (Nat×Bool))(s:Nat){o:e dz}{a:bd}{n:e Prop}(q:AM.jV ag CT f B s ax F h []=b (o,a,aO,n))(l:V n)(r:g d B a7 o .normal a aO):g d B a7 ax .normal F h:=(HG p aG j q l r).1
section
variable {q:al P}
def n8(g:e ResultVar)(d:e Nat)(h:bd)(a:s):Option (e Prop):=
 match nd h g with
 |some f=>match nX f with
  |some j=>match g6 (c d) a with
   |true=>iU j (eZ d a)
   |false=>k
  |none=>k
 |none=>k
def g.aQ{fn:Func}{t:Nat}{res:s}(bb:e Nat)(n:n8 fn.results.toList bb F res=b aB)(u:V aB)(cI:∀y,y<t->bb[y]?=b y)(N:dj bb h=b aO:=by exact rfl)(j:kN aO=i:=by exact rfl)(ak:eX bb=i:=by exact rfl):
  g q B (b3 fn t res aO) (.code .ret::ax) .normal F h:=by refine g.ret ⟨.inl a,bb,?_⟩;unfold n8 at n;grind
def g.an{fn:Func}{res:s}(n:n8 fn.results.toList [] F res=b aB)(t:V aB:=by simp):g q B (b3 fn 0 res []) (.code .ret::ax) .normal F h:=
 g.aQ [] n t (λy n=>by omega)
def b3.zero{fn:Func}{res:s}(n:n8 fn.results.toList [] F res=b aB)(u:V aB:=by simp):b3 fn 0 res [] .ret F h:=by
 refine⟨.inl a,[],?_⟩;unfold n8 at n;split at n
 .rename_i bK RK;split at n
  .rename_i N j;split at n
   .rename_i t;exact⟨bK,N,aB,RK,j,n,u,t,a,a,a,λy n=>by omega⟩
   grind
  grind
 grind
def g.a_{id:Nat}{C:bd->e Y->Prop}{x6:dn}{p t:e dz}(n:hU id ax=k)(o:hU id p=b t)(w:g q B x6 t .normal F h):
  g q B (λj d f=>match j with
   |.normal=>C d f
   |j=>g q B x6 p j d f) (.code (.exit id)::ax) .normal F h:=by
 have key:∀{ax:e dz},hU id ax=k->∀{aq:dn},aq (.exit id) F h->g q B aq ax (.exit id) F h:=by
  intro ax;induction ax with
  |nil=>intro _ aq l;exact l
  |cons v D r=>
   intro a aq l;cases v with
   |code A=>exact r (by simpa[hU]using a) l
   |ar y z=>exact r (by simpa[hU]using a) l
   |blk s=>
    simp only[hU]at a;cases x:aa id s with
    |true=>grind
    |false=>
     simp[x]at a;have u:id≠s:=λj=>by grind[Nat.beq_refl]
     simp only[g,u,cr];grind
 exact bX.exit (key n (g.toExit o w))
def g.bD{C:bd->e Y->Prop}{a:dn}{l:e dz}(n:a .ret F h):
  g q B (λj d f=>match j with
   |.normal=>C d f
   |j=>g q B a l j d f) (.code .ret::ax) .normal F h:=g.ret (g.dk (a7:=a) n)
def g.again{d:Type}{s:d->Prop}{l:d->bd}{n:d->e Y}{o:d->Nat}{t:d}{p:dn}(a:d)(w:hF F (l a)=b aB)(x:V aB)(y:s a)(v:o a<o t)(u:h=n a):
  g q B (λr f j=>match r with
   |.normal=>∃a,s a/\o a<o t/\hK f (l a)/\j=n a
   |r=>p r f j) [] .normal F h:=⟨a,y,v,et w x,u⟩
def g.dV{l:Type}(o:l->Prop)(a:l->bd)(d:l->e Y)(r:l->Nat)(f:l)(v:hF F (a f)=b aB)(w:V aB)(x:o f)(t:d f=h)(round:∀f,o f->g q B (λs j n=>match s with
   |.normal=>∃p,o p/\r p<r f/\hK j (a p)/\n=d p
   |s=>g q B a7 ax s j n) [.code u] .normal (a f) (d f)):g q B a7 (.code (.loop u)::ax) .normal F h:=
 g.loop o a d r f x (et v w) t round
def jA(args:e s)(a:e Y):Prop:=∃d z,bW a d z args/\aZ a d
def jA.at{args:e s}(g:jA args h){a:s}(j:args[y]?=b a):∃d l,bo h d l a:=by obtain⟨d,z,f,_⟩:=g;obtain⟨_,n⟩:=bW.get f;grind
def jA.R{args:e s}{h:e Y}(f:jA args h)(l:Nat){g:e UInt8}(a:args[l]?=b (aL (.R g))):c g<=9223372036854775807:=by
 obtain⟨n,o,j⟩:=f.at a;cases b2 j with
 |R f d=>exact d
def jA.M{args:e s}{h:e Y}(l:jA args h)(n:Nat){p:Bool}{o f:Nat}{a:Nat->e D}(d:args[n]?=b (aL (.M p o f a))):f<=9223372036854775807:=by
 obtain⟨v,w,j⟩:=l.at d;cases b2 j with
 |M r g t q u=>omega
def ad.body{n:ar}{fn:Func}{args:e s}{a:s}(l:P.funcs[n]?=b fn)(j:(fn.name== "runtime.NumGoroutine")=m)(r:fn.body=b u)(p:aD args.length fn.ntmps=i)(t:jA args h->g q fn.ntmps (b3 fn h.length a aO) [.code u] .normal (hh 0 args) h):ad q n args h a aO:=by refine⟨⟨fn,l,j,by grind⟩,λo z f d=>?_⟩;exact(ad.intro l j r (e' p) (g.aW (t ⟨o,z,f,d⟩))).2 o z f d
def ad.E{l:ar}{fn:Func}{j:Code}{args:e s}{f d:e Y}{a:s}(n:P.funcs[l]?=b fn)(h:(fn.name== "runtime.NumGoroutine",fn.body,aD args.length fn.ntmps)=(m,b j,i))(o:jA args f->g q fn.ntmps (b3 fn f.length a d) [.code j] .normal (hh 0 args) f):ad q l args f a d:=by simp only[k4]at h;exact ad.body n h.1 h.2.1 h.2.2 o
def g.b5{o:e dz}(a:bd)(d:e Y)(p:(∀(n:bd)(f:e Prop),hF n a=b f->V f->g q B a7 (.code u::o) .normal n d)->g q B a7 ax .normal F h)(r:g q B a7 (.code u::o) .normal a d):g q B a7 ax .normal F h:=
 p λ_ _ j l=>bX.le r (et j l)
end
def kl{d:TypeInfo}(a:P.types[w]?=b d):P.info? w=b d:=by unfold Tables.info?;rw[bF (hM.1 a).1];exact a
def bT.nil:bT P []:=λ_ _ a=>by cases a
def bT.cons{f:bh}(g:en P w f)(h:bT P ag):bT P ((w,f)::ag):=by
 intro t2 e a;simp only[bY]at a;cases d:aa w t2 with
 |true=>rw[d]at a;cases a;rw[<-c1 d];exact g
 |false=>rw[d]at a;exact h t2 e a
abbrev WX:D:=.M i 0 0 (λ_=>[])
def vb:I->D
 |.int a _=>.int a 0
 |.bool _=>.bool m
 |.string _=>.R []
 |.slice _ _ _=>WX
 |.pointer _=>.bj
 |.nilIface=>.bk
 |_=>.cU
def cj(a d:TypeInfo)(f:e TypeDesc:=[]):bh:=⟨a.size,a.bytes,tF d.desc,d.desc,a.zero.elim [] λg=>g.cells.toList.map vb,f⟩
def wG(d j:TypeInfo):Bool:=match d.zero with
 |some a=>a.cells.size==d.size&&a.cells.toList.all (λl=>match l with|.int f g=>g==0&&tD f 0|.bool e=>!e|.string h=>h.data.toList.isEmpty|.slice k 0 0|.pointer k|.nilIface|.nilFunc=>i|_=>m)&&(!tF j.desc||match a with|.agg _=>i|_=>m)
 |none=>m
def en.hP{n o:TypeInfo}{r:e TypeDesc}(A:P.underlying w=b o.desc)(B:P.types[w]?=b n)(h:wG n o=i)(C:r≠[]->P.eqGuardType P.depth w=m/\∀(s:af)(z g:e I)(t:Bool),l_ r z g=b t->(Op.equal w (.agg z.toArray) (.agg g.toArray)).run P s=.ok t s/\∀l,(Op.equal w (.agg z.toArray) (.agg g.toArray)).events P s l=l):en P w (cj n o r):=by
 unfold wG at h;cases j:n.zero with
 |none=>rw[j]at h;cases h
 |some u=>
  simp only[j,ct,gZ,aX]at h;obtain⟨⟨p,q⟩,v⟩:=h;refine⟨A,a,⟨n,u,kl B,a,a,j,?_,?_,by simp[cj,j,p]⟩,C⟩
  .simp only[cj,j,Option.elim,sQ];refine pB λD x=>?_;have:=q D x;split at this<;>try simp only[ct,gZ,List.isEmpty_iff,iG]at this
   .obtain⟨rfl,f⟩:=this;simp[k5,vb,f]
   .simp[k5,vb,this]
   .rename_i d;have f:d.size=0:=by rw[show d.size=c d.data.toList from a,this];rfl
    simp only[Function.comp,k5,vb,this,f];rfl
   all_goals first|rfl|cases this
  by_cases y:tF o.desc=i
  .cases u<;>simp_all[cj]
  exact⟨#[],(bp y).symm⟩
def bT.eH{e f:TypeInfo}(d:P.underlying w=b f.desc)(h:P.types[w]?=b e)(g:wG e f=i)(j:bT P ag):bT P ((w,cj e f)::ag):=.cons (.hP d h g λd=>absurd a d) j
def bT.j'{f d:TypeInfo}{g:TypeDesc}{h:e TypeDesc}{a:e Field}(j:P.underlying w=b d.desc)(r:P.types[w]?=b f)(l:wG f d=i)(o:d.desc=.struct a.toArray)(n:P.stoodInHeld w=m)(p:P.eqGuardType P.depth w=m)(q:uQ P (g::h) a 0)(s:bT P ag):bT P ((w,cj f d (g::h))::ag):=.cons (.hP j r l λ_=>Rq (j.trans (er b o)) n p q) s
namespace R1
section
noncomputable def fh:bh:=cj t3 t3
noncomputable def p7:bh:=cj t9 t9
noncomputable def Aj:bh:=cj t28 t28
noncomputable def Ak:bh:=cj t36 t36
noncomputable def Al:bh:=cj t59 t59
noncomputable def nS:bh:=cj t61 t60
noncomputable def we:bh:=cj t65 t64
noncomputable def nT:bh:=cj t74 t73 [.string,.string]
noncomputable def RV:bh:=cj t75 t75
noncomputable def kk:bh:=cj t87 t86 [.int .i64,.string]
noncomputable def tB:bh:=cj t104 t103 [.int .i64,.int .i64]
noncomputable def wc:bh:=cj t135 t134
noncomputable def nR:bh:=cj t163 t162 [.int .i64,.int .i64]
noncomputable def Ai:bh:=cj t178 t59
noncomputable def wd:bh:=cj t246 t246
noncomputable def p6:bh:=cj t257 t256 [.string,.bool]
noncomputable def ew:e (Nat×bh):=[(2,cj t2 t2),(3,fh),(4,cj t4 t4),(5,cj t5 t5),(6,cj t6 t5),(7,cj t7 t7),(8,cj t8 t7),(9,p7),(12,cj t12 t12),(16,cj t16 t16),(17,cj t17 t17),(20,cj t20 t20),(21,cj t21 t21),(22,cj t22 t22),(23,cj t23 t23),(24,cj t24 t24),(25,cj t25 t25),(27,cj t27 t26),(28,Aj),(36,Ak),(41,cj t41 t41),(50,cj t50 t49),(53,cj t53 t53),(55,cj t55 t55),(59,Al),(61,nS),(63,cj t63 t63),(65,we),(74,nT),(75,RV),(76,cj t76 t23),(78,cj t78 t77),(85,cj t85 t84),(87,kk),(99,cj t99 t99),(104,tB),(113,cj t113 t112 [.string]),(118,cj t118 t118),(119,cj t119 t12),(121,cj t121 t120),(124,cj t124 t123),(126,cj t126 t5),(135,wc),(163,nR),(174,cj t174 t174),(177,cj t177 t177),(178,Ai),(187,cj t187 t187),(190,cj t190 t190),(192,cj t192 t192),(193,cj t193 t193),(198,cj t198 t198),(209,cj t209 t209),(212,cj t212 t211),(213,cj t213 t3),(219,cj t219 t218),(227,cj t227 t3),(235,cj t235 t235),(237,cj t237 t237),(246,wd),(248,cj t248 t247),(249,cj t249 t247),(250,cj t250 t247),(252,cj t252 t251),(254,cj t254 t253),(256,cj t256 t256 [.string,.bool]),(257,p6),(263,cj t263 t263),(265,cj t265 t264),(270,cj t270 t237),(274,cj t274 t274),(292,cj t292 t292),(299,cj t299 t299),(309,cj t309 t309),(328,cj t328 t327 [.int .u8,.int .u8]),(329,cj t329 t329),(330,cj t330 t330),(333,cj t333 t333),(335,cj t335 t334),(337,cj t337 t5),(339,cj t339 t21),(340,cj t340 t21),(342,cj t342 t341),(348,cj t348 t347 [.string])]
end
def bv:bT R ew:=by
 unfold ew
 repeat' first|exact bT.nil|refine bT.j' bO bO bO rfl bO bO (by repeat' first|exact M|kernel_rfl|refine⟨by decide,rfl,?_,?_⟩|refine⟨?_,?_⟩) ?_|refine bT.eH bO bO bO ?_
end R1
abbrev an:=e UInt8
abbrev bC(a:an):s:=aL (.R a)
abbrev S(a:Int):s:=aL (.int .i64 a)
abbrev ti(a:Int):s:=aL (.int .u8 a)
abbrev bm(a:Bool):s:=aL (.bool a)
def vp{a:an}:jI a f=a.getD f 0:=rfl
namespace R1
variable {q:al R}
def c5:Tryz.prog.follows Departure.mixedOrders=i:=rfl
def w0{n:al R}{a:e (Nat×bB)}(v:a3 n a)(j:e (Nat×Bool)){l:Nat}{f:dn}(u:Nat){q t:e dz}{p d:bd}{r h:e Y}{s:e Prop}(w:AM.jV ew a j l u q p r []=b (t,d,h,s))(o:V s)(x:g n l f t .normal d h):g n l f q .normal p r:=g.aX c5 bv v j u w o x
def is{q:al R}(h:e (Nat×Bool)){j:Nat}{d:dn}(t:Nat){o s:e dz}{n a:bd}{p f:e Y}{r:e Prop}(u:AM.jV ew [] h j t o n p []=b (s,a,f,r))(l:V r)(v:g q j d s .normal a f):g q j d o .normal n p:=g.aX c5 bv a3.nil h t u l v
def a8{p:al R}{h:Nat}{d:dn}{n r:e dz}{l a:bd}{o f:e Y}{q:e Prop}(s:AM.jV ew [] [] h 100 n l o []=b (r,a,f,q))(j:V q)(t:g p h d r .normal a f):g p h d n .normal l o:=g.aX c5 bv a3.nil [] 100 s j t
def cq{p:al R}{h:Nat}{d:dn}{n r:e dz}{l a:bd}{o f:e Y}{q:e Prop}(s:AM.jV ew [] [] h 200 n l o []=b (r,a,f,q))(j:V q)(t:g p h d r .normal a f):g p h d n .normal l o:=g.aX c5 bv a3.nil [] 200 s j t
def a4{n:al R}{a:e (Nat×bB)}(u:a3 n a)(j:e (Nat×Bool)){l:Nat}{f:dn}{q t:e dz}{p d:bd}{r h:e Y}{s:e Prop}(v:AM.jV ew a j l 100 q p r []=b (t,d,h,s))(o:V s)(w:g n l f t .normal d h):g n l f q .normal p r:=g.aX c5 bv u j 100 v o w
def bs{n:al R}{a:e (Nat×bB)}(u:a3 n a)(j:e (Nat×Bool)){l:Nat}{f:dn}{q t:e dz}{p d:bd}{r h:e Y}{s:e Prop}(v:AM.jV ew a j l 200 q p r []=b (t,d,h,s))(o:V s)(w:g n l f t .normal d h):g n l f q .normal p r:=g.aX c5 bv u j 200 v o w
def a_{q:al R}(h:e (Nat×Bool)){j:Nat}{d:dn}{o s:e dz}{n a:bd}{p f:e Y}{r:e Prop}(t:AM.jV ew [] h j 100 o n p []=b (s,a,f,r))(l:V r)(u:g q j d s .normal a f):g q j d o .normal n p:=g.aX c5 bv a3.nil h 100 t l u
def b6{q:al R}(h:e (Nat×Bool)){j:Nat}{d:dn}{o s:e dz}{n a:bd}{p f:e Y}{r:e Prop}(t:AM.jV ew [] h j 200 o n p []=b (s,a,f,r))(l:V r)(u:g q j d s .normal a f):g q j d o .normal n p:=g.aX c5 bv a3.nil h 200 t l u
def cu{l:al R}{a:e (Nat×bB)}(t:a3 l a){j:Nat}{f:dn}{p s:e dz}{o d:bd}{q h:e Y}{r:e Prop}(u:AM.jV ew a [] j 100 p o q []=b (s,d,h,r))(n:V r)(v:g l j f s .normal d h):g l j f p .normal o q:=g.aX c5 bv t [] 100 u n v
def c0{l:al R}{a:e (Nat×bB)}(t:a3 l a){j:Nat}{f:dn}{p s:e dz}{o d:bd}{q h:e Y}{r:e Prop}(u:AM.jV ew a [] j 200 p o q []=b (s,d,h,r))(n:V r)(v:g l j f s .normal d h):g l j f p .normal o q:=g.aX c5 bv t [] 200 u n v
def km(a:Int):Bool:=decide (97<=a)&&decide (a<=101)
theorem P1(d:Int):ad q 96 [ti d] [] (bm (km d)) []:=by
 refine ad.E func96 rfl λ_=>?_;by_cases e:97<=d
 .refine a_ [4] a ?_ (g.an a ?_)<;>simp[e,km]
 refine a_ [-4] a ?_ (g.an a ?_)<;>simp[e,km]
def iq(a:UInt8):Bool:=decide (97<=a.toNat)&&decide (a.toNat<=122)
def dP(a:an):Bool:=a.all iq
def Su{a:an}(e:∀d,d<c a->iq (a.getD d 0)=i):dP a=i:=by simp only[dP,aX];grind[List.getElem_of_mem]
def Sr{a:an}(f:y<c a)(e:iq (a.getD y 0)=m):dP a=m:=by
 cases d:dP a with
 |false=>rfl
 |true=>
  simp only[dP,aX]at d;grind
theorem PO(e:an):ad q 97 [bC e] [] (bm (dP e)) []:=by
 refine ad.E func97 rfl λf=>?_;have p:=f.R 0 a;refine a8 a M (g.dV (λd=>d<=c e/\∀y,y<d->iq (e.getD y 0)=i) (λd:Nat=>[(0,bC e),(3,S d)]) (λ_=>[]) (λd=>c e-d) 0 a Q ⟨by omega,by omega⟩ a ?_);rintro d ⟨h,u⟩;by_cases n:d<c e
 .generalize t:e.getD d 0=j;by_cases o:j.toNat<97
  .refine a_ [7,13] a ?_ (g.bD (b3.zero a ?_))
   .simp only[V,vp,bM,t];omega
   exact xH
  by_cases l:j.toNat>122
  .refine a_ [7,-13,18] a Ko (g.bD (b3.zero a ?_));exact xH
  refine a_ [7,-13,-18] a Lb (g.again (d+1) a Q ?_ ?_ a)
  .refine⟨by omega,λy N=>?_⟩;rcases yc.1 N with N|rfl
   .grind
   rw[t];simp only[iq,ct,bM];omega
  omega
 exact Jv
end R1
def ad.args{P:aw}{o:al P}{p:ar}{args a:e s}{h f:e Y}{d:s}(q:ad o p a h d f)(l:∀g z,bW h g z args->bW h g z a):ad o p args h d f:=
 ⟨q.1,λg z n j=>q.2 g z (l g z n) j⟩
def i0(f:Nat):s->Option (Nat×(Nat->e D))
 |.k (.S (.c (.M _ g d a)))=>match aa g f with
  |true=>b (d,a)
  |false=>match aa d 0 with
   |true=>b (0,λ_=>[])
   |false=>k
 |_=>k
def UA{p:Nat}{n:s}{q:Nat}{d:Nat->e D}(a:i0 p n=b (q,d)){v:e Y}{t:aj}{u:I}(r:bo v t u n):Rd t.n u (.M m p q d):=by
 unfold i0 at a;split at a
 .rename_i w o l dh;split at a
  .rename_i f;have h:=c1 f;subst h;cases a;exact(b2 r).dU
  split at a
  .rename_i y;have h:=c1 y;subst h;cases a;have j:=b2 r;cases j with
   |M A g B z J K f C E F=>exact Rd.M A g B z J Q x x x x
  grind
 grind
def hH{d:Type}(f:d->e D)(a:d)(h:e d):Nat->e D:=λg=>f (h.getD g a)
structure dO(α:Type) where
 b3:Nat
 a1:α->e D
 cC:e D->α
 N:α
 inv:∀t,cC (a1 t)=t
 len:∀t,c (a1 t)=b3
namespace dO
variable {α:Type}(u:dO α)
def ao(f:Nat)(a:Nat->e D):e α:=(aI f).map λd=>u.cC (a d)
def fn(a:e α):Nat->e D:=hH u.a1 u.N a
def bV(f:Nat)(a:Nat->e D):Prop:=∀d,d<f->a d=u.a1 (u.cC (a d))
def M(a:e α):s:=aL (.M m u.b3 (c a) (u.fn a))
def ji{d:Nat}{a:Nat->e D}:c (u.ao d a)=d:=by simp[ao]
def aa(a:e α):u.ao (c a) (u.fn a)=a:=by
 apply pD
 .simp[ao]
 intro g f d;simp[ao,fn,hH,av,bu d,u.inv]
def ad(a:e α){d:Nat}:u.bV d (u.fn a):=λf _=>by simp[fn,hH,u.inv]
def iF{f:Nat}{a:Nat->e D}(g:u.bV f a):b4 f a (u.fn (u.ao f a)):=by intro h d;rw[g h d];simp[fn,hH,ao,av,d]
def b8{g:s}{f:Nat}{a:Nat->e D}(o:i0 u.b3 g=b (f,a))(l:u.bV f a){h:e Y}{d:aj}{ai:I}(p:bo h d ai g):bo h d ai (u.M (u.ao f a)):=by have j:=UA o p;have n:=j.b9 (u.iF l);show Rd d.n ai (.M m u.b3 (c (u.ao f a)) _);rw[u.ji];exact n
end dO
def c9(d:an)(a:Nat):Int:=(d.getD a 0).toNat
theorem ja(d:an)(a:Int):((jI d a).toNat:Int)=c9 d a.toNat:=rfl
abbrev a':=an×an
def uj(a:e D)(d:Nat):an:=match cH d a with|some (.R f)=>f|_=>[]
def p'(a:e D)(d:Nat):Int:=match cH d a with|some (.int _ f)=>f|_=>0
def bf:dO a':={b3:=2,a1:=λd=>[.R d.1,.R d.2],cC:=λa=>(uj a 0,uj a 1),N:=([],[]),inv:=λ_=>rfl,len:=λ_=>rfl}
namespace R1
variable {q:al R}
def yZ:bB:=λargs a=>match args,a with
 |[.k (.S (.c (.int .u8 d)))],[]=>b (bm (km d),[],[])
 |_,_=>k
def Vp:bI q 96 yZ:=by intro args g d e a f _;unfold yZ at f;grind[P1]
def vt:bB:=λargs a=>match args,a with
 |[.k (.S (.c (.R d)))],[]=>b (bm (dP d),[],[])
 |_,_=>k
def Io:bI q 97 vt:=by intro args g d e a f _;unfold vt at f;grind[PO]
def Eh:e (Nat×bB):=[(96,yZ),(97,vt)]
def oM:a3 q Eh:=a3.cons Vp (a3.cons Io a3.nil)
def fi(a:an):Bool:=if c a=1 then km (c9 a 0)else if c a=3 then km (c9 a 0)&&(c9 a 1==47)&&km (c9 a 2)else m
theorem Qp(e:an):ad q 46 [bC e] [] (bm (fi e)) []:=by
 refine ad.E func46 rfl λh=>?_;by_cases ak:c e=1
 .refine a4 oM [6] a xQ (g.an a ?_);simp[fi,ak,ja]
 by_cases d:c e=3
 .by_cases j:km (c9 e 0)=i
  .by_cases f:c9 e 1=47
   .refine a4 oM [-6,11,14,18] a ?_ (g.an a ?_)
    .simp[d,ja,j,f]
    simp[fi,d,j,f,ja]
   refine a4 oM [-6,11,14,-18] a ?_ (g.an a ?_)
   .simp[d,ja,j,f]
   simp[fi,d,j,f]
  refine a4 oM [-6,11,-14] a ?_ (g.an a ?_)
  .simp[d,ja,j]
  simp[fi,d,j]
 refine a4 oM [-6,-11] a cb (g.an a ?_);simp[fi,ak,d]
def fa(a:an):Bool:=decide (c a<=40)&&dP a
theorem Q4(d:an):ad q 47 [bC d] [] (bm (fa d)) []:=by
 refine ad.E func47 rfl λf=>?_;by_cases e:c d<=40
 .refine a4 oM [5] a cb (g.an a ?_);simp[fa,e]
 refine a4 oM [-5] a cb (g.an a ?_);simp[fa,e]
def ka(a d:an):Bool:=(c a != c d)&&(c9 a 0==c9 d 0)
def Oo(d e:an)(f:d≠[])(h:e≠[]):ad q 48 [bC d,bC e] [] (bm (ka d e)) []:=by
 have l:=yk.2 f;have j:=yk.2 h;refine ad.E func48 rfl λn=>?_;by_cases N:c d=c e
 .refine a_ [-9] a uz (g.an a ?_);simp[ka,N]
 refine a_ [9] a bx (g.an a ?_);simp[ka,N,ja]
end R1
def pq(f a:e Y):Prop:=∀(d:aj),aZ f d->aZ a d/\cA f d a d/\∀(h:I)(g:s),bo f d h g->bo a d h g
def Aq:Y->Y->Option (e Prop)
 |.q j s n f,.q a g h d=>match aa j a,aa s g with
  |true,i=>b [n=h,b4 n f d]
  |_,_=>k
 |.cells j r,.cells a l=>match aa j a with
  |true=>o0 r l
  |false=>k
 |.t,.t=>b []
 |.Q H,.Q o=>b [H=o]
 |.loop v u w,.loop q p t=>b [Y.loop v u w=Y.loop q p t]
 |.a2,.a2=>b []
 |.A j s n f,.A a g h d=>match aa j a,aa s g with
  |true,i=>b [n=h,b4 n f d]
  |_,_=>k
 |_,_=>k
def ip:e Y->e Y->Option (e Prop)
 |[],[]=>b []
 |d::j,f::h=>match Aq d f with
  |some g=>match ip j h with
   |some a=>b (gh g a)
   |none=>k
  |none=>k
 |_,_=>k
def uO(l f:Y):Prop:=
 (∀e h g a,l=.q e h g a->∃d,f=.q e h g d/\b4 g a d)/\((∀e h g a,l≠.q e h g a)->(∀e h g a,f≠.q e h g a)/\(l=f∨(∃e n j,l=.cells e n/\f=.cells e j/\∀o p z,bJ o p z n->bJ o p z j)∨∃e h g a d,l=.A e h g a/\f=.A e h g d/\b4 g a d))
theorem Sm{B g:Y}(e:Aq B g=b aB)(j:V aB):uO B g:=by
 unfold Aq at e;split at e
 .rename_i T o p es h x f d;split at e
  .rename_i u v;cases e;have l:=c1 u;have w:=c1 v;obtain⟨s,D⟩:p=f/\b4 p es d:=j;subst l w s;refine⟨λdS J M C he=>?_,λK=>absurd a (K _ _ _ _)⟩;grind
  grind
 .rename_i T aY h n;split at e
  .rename_i u;have l:=c1 u;subst l;exact⟨λ_ _ _ _ he=>pm,λ_=>⟨λ_ _ _ _ he=>pm,.inr (.inl ⟨T,aY,n,a,a,λN O z y=>As e j y⟩)⟩⟩
  grind
 .exact Cb
 .cases e;rename_i H q;have t:H=q:=j;subst t;exact Cb
 .cases e;rename_i F E y I r A;have t:Y.loop F E y=Y.loop I r A:=j;exact⟨λ_ _ _ _ he=>pm,λ_=>⟨λ_ _ _ _ he=>pm,.inl t⟩⟩
 .exact Cb
 .rename_i T o p es h x f d;split at e
  .rename_i u v;cases e;have l:=c1 u;have w:=c1 v;obtain⟨s,D⟩:p=f/\b4 p es d:=j;subst l w s;exact⟨λ_ _ _ _ he=>pm,λ_=>⟨λ_ _ _ _ he=>pm,.inr (.inr ⟨T,o,p,es,d,a,a,D⟩)⟩⟩
  grind
 grind
def Gj:∀{j f:e Y}{g:e Prop},ip j f=b g->V g->c f=c j/\∀(l:Nat)(h d:Y),j[l]?=b h->f[l]?=b d->uO h d
 |[],[],_,_,_=>⟨rfl,λl h d a=>by grind⟩
 |[],_::_,_,a,_=>by cases a
 |_::_,[],_,a,_=>by cases a
 |o::v,p::u,g,a,n=>by
  simp only[ip]at a;split at a
  .rename_i t q;split at a
   .rename_i Xi cY;cases a;rw[V.W]at n;obtain⟨s,r⟩:=Gj cY n.2;grind[Sm]
   grind
  grind
def jm(F:ip h aO=b aB)(ag:V aB):pq h aO:=by
 obtain⟨ay,aF⟩:=Gj F ag;intro E G;have aA:∀(n:Nat) (r:Y),h[n]?=b r->∃t,aO[n]?=b t/\uO r t:=J;have get:∀(n:Nat) (t:Y),aO[n]?=b t->∃r,h[n]?=b r/\uO r t:=J;have az:∀(n:Nat),(∀r,h[n]?=b r->r.cN=m)->∀r,aO[n]?=b r->r.cN=m:=by
  intro n af t q;obtain⟨r,ao,y⟩:=get n _ q;have ax:=af r ao;rcases(y.2 (λj l o d w=>by rw[w]at ax;cases ax)).2 with rfl|⟨j,g,D,rfl,rfl,_⟩|⟨j,l,o,d,f,rfl,rfl,_⟩
  .omega
  .rfl
  exact cF
 have aP:∀(n:Nat) j l o d,aO[n]?=b (Y.A j l o d)->∃f,h[n]?=b (Y.A j l o f):=by
  intro n j l o d q;obtain⟨r,ao,y⟩:=get n _ q;by_cases B:∃j l o d,r=Y.q j l o d
  .obtain⟨E1,k1,ai,mX,rfl⟩:=B;obtain⟨f,u,_⟩:=y.1 _ _ _ _ rfl;cases u
  rcases(y.2 (λj l o d w=>B ⟨j,l,o,d,w⟩)).2 with rfl|⟨j,g,D,rfl,F,_⟩|⟨j,l,o,d,f,rfl,F,_⟩
  .grind
  .cases F
  grind
 have aL:∀(n:Nat) j l o d,aO[n]?=b (Y.q j l o d)->∃f,h[n]?=b (Y.q j l o f):=by
  intro n j l o d q;obtain⟨r,ao,y⟩:=get n _ q;by_cases B:∃j l o d,r=Y.q j l o d
  .obtain⟨E1,k1,ai,mX,rfl⟩:=B;obtain⟨f,u,_⟩:=y.1 _ _ _ _ rfl;grind
  exact absurd a ((y.2 (λj l o d w=>B ⟨j,l,o,d,w⟩)).1 j l o d)
 have ar:∀(A:I) (T:C),ck h E A T->ck aO E A T:=by
  intro A T p;cases T with
  |c aK=>exact p
  |ptr n aQ=>exact⟨az n p.1,p.2⟩
  |q n l o d=>
   refine⟨p.1,by rw[ay];exact p.2.1,λj N Q f q=>?_⟩;obtain⟨dU,v⟩:=aL n j N Q f q;exact p.2.2 j N Q dU v
  |aD n=>exact⟨az n p.1,p.2⟩
  |ak n aR=>
   obtain⟨ah,aj,aG,aH⟩:=p;refine⟨ah,aj,by grind,λj N Q f q=>?_⟩;grind
  |any=>exact p
 have ak:∀(z:e I) (g:e C),bJ h E z g->bJ aO E z g:=by
  intro z;induction z with
  |nil=>intro g p;cases g with|nil=>trivial|cons _ _=>exact p.elim
  |cons A z M=>intro g p;cases g with|nil=>exact p.elim|cons aE g=>exact⟨ar _ _ p.1,M _ p.2⟩
 have au:∀(A:I) (w:E1),eh h E A w->eh aO E A w:=by
  intro A w p;cases w with
  |S T=>exact ar _ _ p
  |agg g=>obtain⟨z,u,v⟩:=p;exact⟨z,u,ak _ _ v⟩
 have aq:∀(z:e I) (g:e E1),eJ h E z g->eJ aO E z g:=by
  intro z;induction z with
  |nil=>intro g p;cases g with|nil=>trivial|cons _ _=>exact p.elim
  |cons A z M=>intro g p;cases g with|nil=>exact p.elim|cons aE g=>exact⟨au _ _ p.1,M _ p.2⟩
 have aw:∀(A:I) (W:s),bo h E A W->bo aO E A W:=by
  intro A W p;cases W with
  |k aK=>exact au _ _ p
  |C O=>obtain⟨z,u,v⟩:=p;exact⟨z,u,aq _ _ v⟩
  |any=>trivial
 refine⟨⟨G.mem,by rw[G.len,ay],?_,G.aL,G.lt,G.own⟩,⟨bE _,λ_ _ _=>rfl,λ_ _ _ F=>F,λ_ _ _ _=>rfl,λL F S x=>.inr ⟨L,F,x⟩,?_,a,a,a,a⟩,aw⟩
 .intro n t L al Z;obtain⟨r,ao,y⟩:=get n t al;have x:=G.box n r L ao Z;by_cases B:∃j l o d,r=Y.q j l o d
  .obtain⟨j,l,o,d,rfl⟩:=B;obtain⟨f,rfl,q⟩:=y.1 _ _ _ _ rfl;refine⟨x.1.b9 q,?_⟩;rcases x.2 with⟨u,v⟩|u
   .exact .inl ⟨u,v.b9 q⟩
   grind
  rcases(y.2 (λj l o d w=>B ⟨j,l,o,d,w⟩)).2 with rfl|⟨j,g,D,rfl,rfl,U⟩|⟨j,l,o,d,f,rfl,rfl,U⟩
  .cases r with
   |cells j g=>obtain⟨S,z,u,v,K,R⟩:=x;exact⟨S,z,u,v,ak _ _ K,R⟩
   |q j l o d=>grind
   |Q H=>exact x
   |t=>trivial
   |loop aN aM p=>obtain⟨n,tmps,fn,aC,u,v,K,R,X⟩:=x;exact⟨n,tmps,fn,aC,u,v,K,λaJ=>aw _ _ (R aJ),X⟩
   |a2=>exact x
   |A j l o d=>exact x
  .obtain⟨S,z,u,v,K,R⟩:=x;exact⟨S,z,u,v,ak _ _ (U _ _ _ K),R⟩
  rcases x with x|⟨S,ab,z,an,u,v,K,R,X,ad,ae⟩
  .exact .inl x
  exact .inr ⟨S,ab,z,an,u,v,K,R,X,ad.b9 U,ae⟩
 intro n r L ao Z;obtain⟨t,al,y⟩:=aA n r ao;refine⟨t,L,al,Z,?_⟩;by_cases B:∃j l o d,r=Y.q j l o d
 .obtain⟨j,l,o,d,rfl⟩:=B;obtain⟨f,rfl,q⟩:=y.1 _ _ _ _ rfl;exact⟨λ_=>rfl,bE _⟩
 rcases(y.2 (λj l o d w=>B ⟨j,l,o,d,w⟩)).2 with rfl|⟨j,g,D,rfl,rfl,U⟩|⟨j,l,o,d,f,rfl,rfl,_⟩
 .exact fL.refl _ _
 .exact a
 exact⟨λ_=>rfl,bE _⟩
section
variable {q:al P}
theorem bX.aK{aq:dn}{f:bd}(D:∀e g,bQ B h e F g->aZ h e->∃a:aj,a.a=e.a/\bQ B aO a f g/\aZ aO a/\cA h e aO a)(J:bX q B u aq f aO):bX q B u aq F h:=by intro e g K d z s o y M N;obtain⟨a,I,C,w,v⟩:=D e g K d;have x:=v.tolU d;refine .aK (.of d w I x) ?_;exact J a g C w z s o y M λA E l t n O p r j=>N A E l t n O p r (x.trans j)
theorem g.aK{f:bd}{a:e Y}(n:∀j l,bQ B h j F l->aZ h j->∃d:aj,d.a=j.a/\bQ B a d f l/\aZ a d/\cA h j a d)(o:g q B a7 (.code u::ax) .normal f a):g q B a7 (.code u::ax) .normal F h:=
 bX.aK n o
def bQ.V{g:Act}(j:pq h aO)(e:bQ B h d F g)(a:aZ h d):bQ B aO d F g:=⟨e.size,e.defers.imp λ_ f=>f.mono (j d a).2.1.ext,λl=>(j d a).2.2 _ _ (e.aC l)⟩
def g.bq(d:e Y)(j:ip h d=b aB)(f:V aB)(o:g q B a7 (.code u::ax) .normal F d):g q B a7 (.code u::ax) .normal F h:=
 g.aK (λl p n a=>⟨l,rfl,n.V (jm j f) a,(jm j f l a).1,(jm j f l a).2.1⟩) o
def g.bH(d:Nat)(l:ab)(o:Nat){fJ:Nat}(y:look F d=aL (.M i fJ p es))(t:p=0)(r:g q B a7 (.code u::ax) .normal ((d,.k (.S (.q (c h) o p es)))::F) (h++[.q l o p es])):g q B a7 (.code u::ax) .normal F h:=by
 refine g.aK (λj e f bc=>?_) r;have s:=f.aC d;rw[y]at s;have a:=Rd.fD (o:=fJ) (fJ:=o) (.inr t) (b2 s);have ao:ek (h++[.q l o p es]) {j with m:=j.m++[⟨e.tmps.getD d E,[]⟩]} (.q l o p es) ⟨e.tmps.getD d E,[]⟩:=⟨a.dU,.inl ⟨⟨rfl,t⟩,a⟩⟩;obtain⟨x,n⟩:=bc.bL (.refl _ _) rfl bc ao Q
 refine⟨{j with m:=j.m++[⟨e.tmps.getD d E,[]⟩]},rfl,⟨f.size,f.defers.imp λ_ a=>a.mono n.ext,λv=>?_⟩,x,n⟩;simp only[look];cases z:aa d v with
 |false=>exact(f.aC v).mono n.ext bc.len
 |true=>
  have w:=c1 z;subst w;exact rT (L:=⟨e.tmps.getD d E,[]⟩) Q sn ao
def g.b1{I:Type}(S:I->Prop)(n:I->bd)(f:I->e Y)(y:I->Nat)(r:I){N:e Prop}(aA:hF F (n r)=b aB)(D:V aB)(ar:ip h (f r)=b N)(C:V N)(aC:S r)(round:∀r,S r->g q B (λx E J=>match x with
   |.normal=>∃d,S d/\y d<y r/\hK E (n d)/\pq J (f d)
   |x=>g q B a7 ax x E J) [.code u] .normal (n r) (f r)):g q B a7 (.code (.loop u)::ax) .normal F h:=by
 intro ai t s A j ad X U ab Z;have ag:=jm ar C;obtain⟨az,R,_⟩:=ag ai A;refine vi (λp l au=>∃d,S d/\bQ B (f d) au (n d) l/\aZ (f d) au/\c6 h ai (f d) au/\y d=p) ?_ ?_ ⟨r,aC,(s.le (et aA D)).V ag A,az,R.tolU A,a⟩
 .rintro p l au ⟨d,ae,w,K,T,x⟩;exact⟨f d,K,λaE z=>⟨d,ae,w.rely z K,K.rely z,T.trans z.aH,x⟩⟩
 rintro p l au ⟨d,ae,w,K,T,rfl⟩ al;refine round d ae au l w K j (.inLoop u::ad) X U ab ?_;intro x aF an O W ah M o v;cases x with
 |normal=>
  obtain⟨aj,ak,aq,ao,af⟩:=ah;obtain⟨ay,aw,_⟩:=af O o;exact al W O (y aj) aq ⟨aj,ak,(M.le ao).V af o,ay,T.trans (v.trans (aw.tolU o)),a⟩
 |_=>exact jN.cons (λ_ _=>rfl) Q (Z _ _ _ _ _ ah M o (T.trans v))
def g.bI{d:Type}{v:d->Prop}{n:d->bd}{p:d->e Y}{t:d->Nat}{w:d}{r:dn}(a:d){o:e Prop}(x:hF F (n a)=b aB)(z:V aB)(j:ip h (p a)=b o)(A:V o)(C:v a)(u:t a<t w):
  g q B (λs f l=>match s with
   |.normal=>∃a,v a/\t a<t w/\hK f (n a)/\pq l (p a)
   |s=>r s f l) [] .normal F h:=⟨a,C,u,et x z,jm j A⟩
end
def ad.bY{y:al P}{C:ar}{args:e s}{j f:s}(n:ad y C args [] j aO)(F:iU j f=b aB)(I:V aB)(A:g6 0 f=i):ad y C args [] f []:=by
 refine⟨n.1,λd z w o E q u=>n.2 d z w o E q λr M p v x l g=>?_⟩;have Q:d.m=[]:=j5 o.len;have K:eg p {p with m:=[]}:=⟨rfl,λ_ _ _ n=>n,λ_ _ _=>rfl,l.mem,λB D=>.inl J⟩
 refine .aK K (u r M {p with m:=[]} (v.mono λ_ _ _ n=>n) ?_ ⟨l.mem,rfl,by simp,by simp,by simp,λB D=>⟨(l.own B D).1,by simp⟩⟩ ⟨g.size,g.aG,g.mem,g.ba,by simp,λR O L ao=>by grind,g.os,g.tape,g.output,g.own⟩);have t:=m6 F I x;have:=bo.sub (bb:=[]) (h:=aO) (aO:=[]) (d:=p) (jz:=[]) (N:=f) a a (by rw[HD A];exact t) A;omega
section drop
variable {a6 bw:e Y}
def rx(d:Nat):Y->Bool
  |.cells _ a=>jk d a
  |.loop ..=>m
  |_=>i
def jj(a:Nat):e Y->Bool
  |[]=>i
  |d::f=>match rx a d with|true=>jj a f|false=>m
def F4{f:Nat}:∀{h:e Y},jj f h=i->∀a∈h,rx f a=i
  |[],_,a,ao=>by grind
  |j::l,d,a,ao=>by
    simp only[jj]at d;cases g:rx f j with
    |false=>grind
    |true=>
      simp only[g]at d;rcases ef.1 ao with rfl|ao
      · exact g
      · exact F4 d a ao
def F6{g:Nat}:∀{a:e C},rP a=i->jk g a=i
  |[],_=>rfl
  |d::j,f=>by
    simp only[rP]at f;cases h:t0 d with
    |false=>grind
    |true=>
      simp only[h]at f;have:jP g d=i:=by cases d<;>simp_all[t0,jP]
      simp only[jk,this];exact F6 f
def F5{h:Nat}:∀{g:e Y},d8 g=i->jj h g=i
  |[],_=>rfl
  |d::n,f=>by
    simp only[d8]at f;cases a:qg d with
    |false=>grind
    |true=>
      simp only[a]at f;have:rx h d=i:=by
        cases d with
        |cells l j=>exact F6 a
        |loop=>simp[qg]at a
        |_=>rfl
      simp only[jj,this];exact F5 f
def ek.fa{e:Y}{L:Loc}(l:rx a6.length e=i)(a:ek (a6++bw) d e L):ek a6 (d.cut a6.length) e L:=by
  cases e with
  |cells j p=>
    obtain⟨n,z,g,h,q,o⟩:=a;exact⟨n,z,g,h,bJ.cb q l,o⟩
  |q j r s f=>exact a
  |Q H=>exact a
  |t=>trivial
  |loop u t v=>simp[rx]at l
  |a2=>exact a
  |A j r s f=>exact a
def aZ.drop(e:aZ (a6++bw) d)(s:jj a6.length a6=i):aZ a6 (d.cut a6.length):=by
  have n:a6.length<=c d.m:=by rw[e.len];simp
  refine⟨e.mem,by simp[aj.cut,n],?_,?_,?_,λf g=>⟨(e.own f g).1,λL a=>(e.own f g).2 L (gE a)⟩⟩
  · intro h p L ao a
    have q:h<a6.length:=(cD.1 ao).1;simp only[aj.cut,kw,q,cN]at a;exact ek.fa (bw:=bw) (F4 s p (bZ ao)) (e.box h p L J a)
  · intro h o L j a l f g r
    simp only[aj.cut,kw]at a l;split at a<;>split at l<;>first|exact e.aL h o L j a l f g r|grind|grind
  · intro L a f g
    exact e.lt L (gE a) f g
def h_.drop(p:jq bw=i):∀{g:e Deferred} {h:e Nat},h_ (a6++bw) d g h->h_ a6 (d.cut a6.length) g h
  |[],[],_=>trivial
  |[],_::_,l=>l.elim
  |_::_,[],l=>l.elim
  |u::g,q::h,⟨⟨f,L,l,o,t⟩,r,s⟩=>by
    have j:q<a6.length:=by
      rcases dJ q a6.length with n|n
      · exact n
      · rw[gK n]at f
        exact absurd a (tP p _ (bZ f))
    rw[jE j]at f;exact⟨⟨f,L,l,by simp only[aj.cut,kw,j,cN];exact o,t⟩,r,h_.drop p s⟩
def tS(d:Nat)(a:e Y):Bool:=match aD d (c a) with|true=>jq (a.drop d)|false=>m
theorem wE(a:tS p h=i):aD p (c h)=i/\jq (h.drop p)=i:=by unfold tS at a;grind
end drop
def oZ(a:Nat):bd->Bool
  |[]=>i
  | (_,d)::e=>match g6 a d with|true=>oZ a e|false=>m
def tC{e:Nat}:∀{f:bd} {a:Nat},oZ e f=i->g6 e (look f a)=i
  |[],a,_=>rfl
  | (j,h)::l,a,d=>by
    simp only[oZ]at d;cases g:g6 e h with
    |false=>grind
    |true=>
      simp only[g]at d;simp only[look];cases aa j a with
      |true=>exact g
      |false=>exact tC d
section
variable {q:al P}
def kZ{h:Type}(w:al P)(v:Nat)(n:dn)(u:e dz)(t:h->Prop)(s:h->bd)(q:h->e Y)(r:h->Nat)(p:Nat)(x:h):dn:=λo f j=>match o with
  |.normal=>∃l,t l/\r l<r x/\hK f (s l)/\oZ p (s l)=i/\∃d a,j=d++a/\d.length=p/\(jj p d=i/\jq a=i)/\pq d (q l)
  |o=>g w v n u o f j
def g.aN{I:Type}(ae:Nat)(S:I->Prop)(r:I->bd)(d:I->e Y)(af:I->Nat)(v:I){O:e Prop}(D:hF F (r v)=b aB)(aq:V aB)(aJ:ip h (d v)=b O)(H:V O)(aF:c h=ae)(ar:S v)(round:∀v,S v->g q B (kZ q B a7 ax S r d af ae v) [.code u] .normal (r v) (d v)):g q B a7 (.code (.loop u)::ax) .normal F h:=by
  intro al t ay A j ad X U n ab;have y:=jm aJ H;obtain⟨aO,R,_⟩:=y al A;refine vi (λaj p f=>∃o,S o/\bQ B (d o) f (r o) p/\aZ (d o) f/\c6 h al (d o) f/\af o=aj) ?_ ?_ ⟨v,ar,(ay.le (et D aq)).V y A,aO,R.tolU A,a⟩
  · rintro ae p f ⟨o,ah,C,N,T,Z⟩
    exact⟨d o,N,λaS l=>⟨o,ah,C.rely l N,N.rely l,T.trans l.aH,Z⟩⟩
  rintro aj p f ⟨o,ah,C,N,T,rfl⟩ aC;refine round o ah f p C N j (.inLoop u::ad) X U n ?_;intro Z G az E W ak M z w;cases Z with
  |normal=>
    obtain⟨an,aw,aH,aG,aQ,K,ag,rfl,aR,⟨aP,ao⟩,aL⟩:=ak;have s:=z.drop J;obtain⟨aN,ai,aK⟩:=aL _ s;have f3:=M.le aG;have aA:eg E (E.cut K.length):=⟨rfl,λ_ _ _ aE=>aE,λ_ _ _=>rfl,z.mem,λj n=>n.imp id λ⟨L,au,n⟩=>⟨L,gE au,n⟩⟩
    refine .aK aA (aC W (E.cut K.length) (af an) aH ⟨an,aw,⟨f3.size,f3.defers.imp λ_ l=>(l.drop ao).mono ai.ext,λaM=>aK _ _ ((f3.aC aM).drop (tC J))⟩,aN,?_,a⟩);exact((T.trans w).drop x).trans (ai.tolU s)
  |_=>exact jN.cons (λ_ _=>rfl) Q (ab _ _ _ _ _ ak M z (T.trans w))
def g.hR{d:Type}{r:d->Prop}{a:d->bd}{n:d->e Y}{o:d->Nat}{s:d}{A:e dz}(f:d){l:e Prop}(w:hF F (a f)=b aB)(z:V aB)(u:oZ p (a f)=i)(t:tS p h=i)(j:ip (h.take p) (n f)=b l)(y:V l)(x:jj p (h.take p)=i)(C:r f)(v:o f<o s):
    g q B (kZ q B a7 A r a n o p s) [] .normal F h:=
  ⟨f,C,v,et w z,u,h.take p,h.drop p,(sS p h).symm,by grind[Nat.le_of_ble_eq_true,wE],⟨x,(wE t).2⟩,jm j y⟩
def g.av{d:Type}{l:Nat}{s:d->Prop}{a:d->bd}{r:d->e Y}{t:d->Nat}{v:d}{z:e dz}(n:d){o p:e Prop}(f:(hF F (a n),oZ l (a n),tS l h,ip (h.take l) (r n),jj l (h.take l))=(b o,i,i,b p,i))(u:V o)(x:V p)(w:s n)(j:t n<t v):
    g q B (kZ q B a7 z s a r t l v) [] .normal F h:=by simp only[k4]at f;exact g.hR n f.1 u f.2.1 f.2.2.1 f.2.2.2.1 x f.2.2.2.2 w j
def g.aA{bg:Type}{cm:bg->Prop}{kh:bg->bd}{cK:bg->e Y}{j:bg->Nat}{A:bg}{id:Nat}{u t N:e dz}(o:g q B a7 N .normal F h)(b8:hU id u=k:=by exact rfl)(cY:hU id t=b N:=by exact rfl):
    g q B (kZ q B a7 t cm kh cK j p A) (.code (.exit id)::u) .normal F h:=
  bX.mono (g.a_ (C:=λc' aO=>kZ q B a7 t cm kh cK j p A .normal c' aO) b8 cY o) λak c' aO be=>by
    have key:∀(ax:e dz) ak,g q B (λak c' aO=>match ak with
        |.normal=>kZ q B a7 t cm kh cK j p A .normal c' aO
        |ak=>g q B a7 t ak c' aO) ax ak c' aO->g q B (kZ q B a7 t cm kh cK j p A) ax ak c' aO:=by
      have ak:(λak c' aO=>match ak with
        |.normal=>kZ q B a7 t cm kh cK j p A .normal c' aO
        |ak=>g q B a7 t ak c' aO)=kZ q B a7 t cm kh cK j p A:=by funext ak c' aO;cases ak<;>rfl
      grind
    exact key _ _ be
def g.aV{a:Type}{j:a->Prop}{d:a->bd}{f:a->e Y}{o:a->Nat}{s:a}{l n:e dz}(r:a7 .ret F h):g q B (kZ q B a7 n j d f o p s) (.code .ret::l) .normal F h:=
  g.ret (g.dk (a7:=a7) r)
theorem bQ.freeze(K o:Nat){aY:e C}{jK:e D}(ai:look F K=ba o 0)(S:cH o h=b (.cells T aY))(H:hA aY=b jK){t:Act}(I:bQ B h d F t)(g:aZ h d):∃l:aj,l.a=d.a/\bQ B (h.set o .t) l ((K,aL (.U jK))::F) t/\aZ (h.set o .t) l/\cA h d (h.set o .t) l:=by
  have ao:=dL S;have ag:o<c h:=(cD.1 ao).1;have ad:=I.aC K;rw[ai]at ad;obtain⟨_,L,r,U,W,ae⟩:=ad;obtain⟨x,z,u,Q,al,an⟩:=g.box o _ L ao U;subst u;simp at W;subst W;let l:aj:={d with n:=λX v=>if X=x then z[v]? else d.n X v}
  have q:cA h d (h.set o .t) l:=by
    refine⟨bE _,λ_ _ _=>rfl,?_,?_,λL af r w=>.inr ⟨L,af,w⟩,?_,a,a,a,a⟩
    · grind
    · intro r w s v
      have ah:r≠x:=λak=>s _ (bZ U) xQ;grind
    · intro p N n f j
      by_cases ak:o=p
      · subst ak
        rw[ao]at f;cases f;exact⟨.t,n,by grind,j,a⟩
      · exact⟨N,n,by grind,j,.refl _ _⟩
  refine⟨l,a,⟨I.size,I.defers.imp λ_ u=>u.mono q.ext,λab=>?_⟩,⟨?_,by simp[g.len,l],?_,g.aL,g.lt,g.own⟩,q⟩
  · simp only[look]
    cases w:aa K ab with
    |false=>exact(I.aC ab).mono q.ext g.len
    |true=>
      have ak:=c1 w;subst ak;rw[ae];have Z:=q3 H al;refine Rd.U x 0 (λy=>(z[y]?).getD E) ?_ ?_
      · intro y O R
        obtain⟨M,Y,_⟩:=Z.get (y:=y) (t:=.c O) J;grind
      · intro y O R
        obtain⟨M,Y,V⟩:=Z.get (y:=y) (t:=.c O) J;simp only[Y,hO];exact Rd.mono q.mem V
  · intro r v M aq
    by_cases ak:r=x
    · subst ak
      have A:z[v]?=b M:=J;show d.a.cell? _=_;simp[aJ,Q,A]
    · exact g.mem r v M J
  · intro p N n f j
    by_cases ak:o=p
    · subst ak
      rw[hN ag]at f;cases f;trivial
    · rw[j7 ak]at f
      refine(g.box p N n f j).bU q.ext g.len λr w=>⟨a,λv=>?_⟩
      have ah:r≠x:=λG=>ak (g.aL o p _ n U j r J w);grind
theorem g.freeze(d a:Nat){T:ab}{aY:e C}{jK:e D}(n:look F d=ba a 0)(f:cH a h=b (.cells T aY))(l:hA aY=b jK)(j:g q B a7 (.code u::ax) .normal ((d,aL (.U jK))::F) (cZ.b2 a .t h)):g q B a7 (.code u::ax) .normal F h:=by grind[lB,g.aK,bQ.freeze]
def g.S{a:e ah}{A:s}(f:a0 q B all r F h A aO)(d:eU B r.dst=i)(j:g q B a7 (.ar all a::ax) .normal (fy r.dst A F) aO):g q B a7 (.ar all (r::a)::ax) .normal F h:=
  e1.dY f (kE d) j
end
structure uR(N:TypeDesc)(es:Array aC)(o:I)(t:Option (Nat×I)):Prop where
 key:MapKept.IsKey N o
 ep:Instr.findNow N o es.toList 0=b t
 b0:t=k->∀ak∈es.toList,ak.key≠o
 eD:∀y ai,t=b (y,ai)->∃ak,es[y]?=b ak/\ak.key=o/\ak.val=ai
abbrev sy(a:Array aC)(e:ByteArray)(d:Option (Nat×I)):Prop:=uR .string a (.string e) d
def RA{N:TypeDesc}{a:Array aC}{f:I}(d:MapKept.IsKey N f)(h:∀e∈a.toList,MapKept.IsKey N e.key):∃g,uR N a f g:=by
 rcases MapKept.findNow_spec d a.toList 0 h with⟨j,X⟩|⟨y,e,j,X,o⟩
 .exact⟨k,d,j,λ_=>X,by simp⟩
 refine⟨_,d,j,by simp,λn p l=>?_⟩;grind
def z'{es:Array aC}(j:ByteArray)(h:∀a∈es.toList,∃d,a.key=.string d):∃e,sy es j e:=
 RA (N:=.string) M λa g=>by obtain⟨d,f⟩:=h a g;rw[f];trivial
section
variable {u ac:ab}{N:TypeDesc}{a1:Nat}{es:Array aC}{clock:Nat}{o:I}{ok:Bool}
def HM(a:P.underlying u=b N):(underlying u).run P K=.ok N K:=by simp[underlying,a]
def tm(d:P.underlying u=b N)(f:MapKept.IsKey N o)(e:Bool)(a:Array ay):(Instr.checkKey e 10000 u o).events P K a=a:=by show(Instr.checkKey e (9999+1) u o).events P K a=a;unfold Instr.checkKey;simp only[aE,HM d,aH,events_underlying];cases N<;>cases o<;>first|exact f.elim|simp
def tn{f:e aC}{t:Option (Nat×I)}(d:P.underlying u=b N)(g:Instr.findNow N o f 0=b t)(a:Array ay):(Instr.findKey u o f).events P K a=a:=by simp[Instr.findKey,HM d,g]
def vS(d:K.heap[a1]?=b (.map es clock))(a:Array ay):(getObj a1).events P K a=a.push ⟨.obj a1,m,m⟩:=by simp only[getObj,Sem.events,Sem.runT,d];rfl
def E8(f:K.heap[a1]?=b (.map es clock)){d:Array aC}{e:Nat}(a:Array ay):(setObj a1 (.map d e)).events P K a=a.push ⟨.obj a1,i,m⟩:=by simp only[setObj,Sem.events,Sem.runT,f];rfl
def Bi(a:P.underlying u=b N)(e:MapKept.IsKey N o)(d:Bool):(Instr.checkKey d 10000 u o).run P K=.ok () K:=MapKept.run_checkKey a e d 9999
def wq(r:P.underlying w=b (.map u ac))(d:P.underlying u=b N)(f:K.heap[a1]?=b (.map es clock)){g:Option (Nat×I)}(e:uR N es o g){eM:I}(n:g=k->(zeroValue ac).run P K=.ok eM K):
  (Instr.lookup w (.map (b a1)) o ok).run P K=.ok (match g with
   |some (_,p)=>if ok=i then .tuple #[p,.bool i]else p
   |none=>if ok=i then .tuple #[eM,.bool m]else eM) K/\(Instr.lookup w (.map (b a1)) o ok).events P K #[]=#[⟨.obj a1,m,m⟩]:=by
 have j:(underlying w).run P K=.ok (.map u ac) K:=by simp[underlying,r]
 have l:=Bi (K:=K) d e.key es.isEmpty;have h:(Instr.findKey u o es.toList).run P K=.ok g K:=MapKept.run_findKey d e.ep;cases g with
 |some q=>
  constructor
  .simp only[Instr.lookup,cn,j,cM,MapKept.run_getObj_map f,dv,l,h]
  simp only[Instr.lookup,aE,j,aH,MapKept.run_getObj_map f,dv,aT,l,h,events_underlying,vS f,tm d e.key,tn d e.ep];rfl
 |none=>
  constructor
  .simp only[Instr.lookup,cn,j,cM,MapKept.run_getObj_map f,dv,l,h,n a]
  simp only[Instr.lookup,aE,j,aH,MapKept.run_getObj_map f,dv,aT,l,h,events_underlying,vS f,tm d e.key,tn d e.ep,n a,events_zeroValue];rfl
def Sx(q:P.underlying w=b (.map u ac))(d:P.underlying u=b N)(g:MapKept.IsKey N o){f:I}(n:(zeroValue ac).run P K=.ok f K):
  (Instr.lookup w (.map k) o ok).run P K=.ok (if ok=i then .tuple #[f,.bool m]else f) K/\(Instr.lookup w (.map k) o ok).events P K #[]=#[]:=by
 have j:(underlying w).run P K=.ok (.map u ac) K:=by simp[underlying,q]
 have l:=Bi (K:=K) d g (#[]:Array aC).isEmpty;have h:(Instr.findKey u o (#[]:Array aC).toList).run P K=.ok k K:=MapKept.run_findKey d a;have p:∀e,(Instr.findKey u o (#[]:Array aC).toList).events P K e=e:=tn (t:=k) d a;constructor
 .simp only[Instr.lookup,cn,j,cM,dv,l,h,n]
 simp only[Instr.lookup,aE,j,aH,dv,aT,l,h,p,events_underlying,tm d g,n,events_zeroValue]
def BS(x:P.underlying w=b (.map u ac))(a:P.underlying u=b N)(e:K.heap[a1]?=b (.map es clock)){g:Option (Nat×I)}{A:I}(f:uR N es o g):
  (Instr.mapUpdate w (.map (b a1)) o A).run P K=.ok () {K with heap:=K.heap.setIfInBounds a1 (match g with
   |some (n,_)=>.map (es.modify n λq=>{key:=o,val:=A,born:=q.born}) clock
   |none=>.map (es.push {key:=o,val:=A,born:=clock}) (clock+1))} /\
  (Instr.mapUpdate w (.map (b a1)) o A).events P K #[]=#[⟨.obj a1,m,m⟩,⟨.obj a1,i,m⟩]:=by
 have j:(underlying w).run P K=.ok (.map u ac) K:=by simp[underlying,x]
 have l:=Bi (K:=K) a f.key m;have h:(Instr.findKey u o es.toList).run P K=.ok g K:=MapKept.run_findKey a f.ep;cases g with
 |some p=>
  obtain⟨n,y⟩:=p;obtain⟨q,s,t,_⟩:=f.eD n y rfl;have r:(Instr.keyThatStays o o).run P K=.ok o K:=MapKept.run_keyThatStays f.key;have v:∀d,(Instr.keyThatStays o o).events P K d=d:=λd=>by simp[Instr.keyThatStays,MapKept.sameBits_self f.key]
  constructor
  .simp only[Instr.mapUpdate,cn,j,cM,MapKept.run_getObj_map e,l,h,s,lY,hO,t,r,MapKept.run_setObj_map _ e]
  simp only[Instr.mapUpdate,aE,j,aH,MapKept.run_getObj_map e,l,h,s,lY,hO,t,r,v,events_underlying,vS e,E8 e,tm a f.key,tn a f.ep];rfl
 |none=>
  constructor
  .simp only[Instr.mapUpdate,cn,j,cM,MapKept.run_getObj_map e,l,h,MapKept.run_setObj_map _ e]
  simp only[Instr.mapUpdate,aE,j,aH,MapKept.run_getObj_map e,l,h,events_underlying,vS e,E8 e,tm a f.key,tn a f.ep];rfl
end
def aZ.br(g:aZ h d){fN:I->(Nat->Option Obj)->Prop}{L b7:Loc}(ao:h[l]?=b (.Q H))(y:d.m[l]?=b L)(X:b7.v=L.v)(Q:d.a.heap.size<=a5.heap.size)(N:∀e,e<d.a.heap.size->e∉L.V->a5.heap[e]?=d.a.heap[e]?)(E:∀e∈b7.V,e∈L.V∨(d.a.heap.size<=e/\e<a5.heap.size))(T:∃q,fN b7.v q/\(∀(e:Nat) (u:Obj),q e=b u->a5.heap[e]?=b u)/\(∀e,e∈b7.V↔(q e).isSome=i))(O:a5.os=d.a.os)(D:a5.tape=d.a.tape)(V:a5.output=d.a.output):
  aZ (h.set l (.Q fN)) ⟨d.m.set l b7,d.n,a5,d.own⟩/\cA h d (h.set l (.Q fN)) ⟨d.m.set l b7,d.n,a5,d.own⟩:=by
 have Z:l<c h:=(cD.1 ao).1;have ae:l<c d.m:=J;obtain⟨G,_,_,_,ab⟩:=g.box l _ L ao y;have Y:∀e∈b7.V,∀u,d.n e u=k:=by
  intro e F u;rcases E e F with p|⟨p,_⟩
  .grind
  cases bk:d.n e u with
  |none=>rfl
  |some U=>have:=g.block bk;omega
 have z:cA h d (h.set l (.Q fN)) ⟨d.m.set l b7,d.n,a5,d.own⟩:=by
  refine⟨Q,J,λ_ _ _ g=>g,λ_ _ _ _=>rfl,J,?_,O,D,V,a⟩;intro f K j v x;by_cases A:l=f
  .subst A;rw[ao]at v;cases v;rw[y]at x;cases x;exact⟨.Q fN,b7,by grind,by grind,X⟩
  exact⟨K,j,by grind,by grind,.refl _ _⟩
 have M:∀(f:Nat) (j:Loc),(d.m.set l b7)[f]?=b j->(f=l/\j=b7)∨(l≠f/\d.m[f]?=b j):=J;refine⟨⟨?_,by simp[g.len],?_,?_,?_,?_⟩,z⟩
 .intro e u U bk;have C:=g.block bk;have ad:e∉L.V:=λt=>by grind
  rw[<-g.mem e u U bk];simp only[aJ];grind
 .intro f K j v x;rcases M f j x with⟨rfl,rfl⟩|⟨A,n⟩
  .rw[hN Z]at v;cases v;obtain⟨q,k1,W,s⟩:=T;exact⟨q,k1,W,s,Y⟩
  rw[j7 A]at v;refine(g.box f K j v n).bU z.ext g.len λe F=>⟨N e (g.lt j (bZ n) e F) λt=>A (g.aL l f L j y n e t F),λ_=>rfl⟩
 .intro ax B r j p n e o w;rcases M ax r p with⟨rfl,rfl⟩|⟨ed,S⟩<;>rcases M B j n with⟨rfl,rfl⟩|⟨fH,R⟩
  .rfl
  .rcases E e o with t|t
   .exact g.aL _ _ L j y R e t w
   have:=g.lt j (bZ R) e w;omega
  .rcases E e w with t|t
   .exact g.aL _ _ r L S y e o t
   have:=g.lt r (bZ S) e o;omega
  exact g.aL _ _ r j S R e o w
 .intro j x e w;rcases List.mem_or_eq_of_mem_set x with p|p
  .exact ej (g.lt j p e w) Q
  subst p;rcases E e w with n|n
  .exact ej (g.lt L (bZ y) e n) Q
  grind
 intro e T;obtain⟨aq,P⟩:=g.own e T;grind
section
variable {fN:I->(Nat->Option Obj)->Prop}
def S9:∀a,([Y.Q H]:e Y)[l]?=b a->a.cN=m:=by
 cases l with
 |zero=>simp[Y.cN]
 |succ l=>simp
end
def b3.b_{fn:Func}{j:Nat}{f:s}(d:e Nat)(l:n8 fn.results.toList d F f=b aB)(p:V aB)(q:dj d h=b aO)(o:kN aO=i)(r:eX d=i)(n:∀g,g<j->d[g]?=b g):
  b3 fn j f aO .normal F h:=by refine⟨.inr a,d,?_⟩;unfold n8 at l;grind
def g.ia{l:al P}{O:Array Z}{o:ar}{f:e Y}{j:s}(x:ad l o dg dq j f)(d:e Nat)(q:r.guard=k)(n:r.op=.call {callee:=.value dC,args:=O,argTypes:=dK})(z:g4 (bA F dC)=b (o,cap))(p:j' (O.toList.map (bA F)++fm cap)=fA d dg)(u:gv (c d) dg=i)(v:dj d h=b dq)(y:d8 dq=i)(t:d8 f=i)(D:eX d=i)(w:aD (c d) f.length=i)(C:eU B r.dst=i)(A:g l B a7 (.ar all bw::ax) .normal (fy r.dst (eZ (d++gk (c h) (f.length-c d)) j) F) (cZ d f h)):g l B a7 (.ar all (r::bw)::ax) .normal F h:=
 e1.call (λ_ _ _ _=>jZ q) n z d x p u v y t D (e' w) r.dst a (kE C) A
def g.eh{j:al P}{O:Array Z}{n:ar}(v:bG j n dg dq res a6)(d:e Nat)(p:r.guard=k)(l:r.op=.call {callee:=.value dC,args:=O,argTypes:=dK})(y:g4 (bA F dC)=b (n,cap))(o:j' (O.toList.map (bA F)++fm cap)=fA d dg)(s:gv (c d) dg=i)(t:dj d h=b dq)(w:d8 dq=i)(q:∀f,d8 (a6 f)=i)(A:eX d=i)(u:∀f,aD (c d) (c (a6 f))=i)(z:eU B r.dst=i)(x:∀f,g j B a7 (.ar all bw::ax) .normal (fy r.dst (eZ (d++gk (c h) (c (a6 f)-c d)) (res f)) F) (cZ d (a6 f) h)):g j B a7 (.ar all (r::bw)::ax) .normal F h:=
 e1.gD (λ_ _ _ _=>jZ p) l y d v o s t w q A (λf=>e' (u f)) r.dst a (kE z) x
def g.aF{P:aw}{y:al P}{x:Nat}{p:dn}{z:e dz}{u:bd}{v:e Y}{j h:e ah}{t:ah}{r:Z}{O:Array Z}{q:Array ab}{w:ar}{l:e D}{a:e s}{o f:e Y}{n:s}(S:ad y w a o n f)(d:e Nat)(A:(t.guard,t.op,g4 (bA u r),j' (O.toList.map (bA u)++fm l),gv (c d) a,dj d v,d8 o,d8 f,eX d,aD (c d) f.length,eU x t.dst)=(k,.call {callee:=.value r,args:=O,argTypes:=q},b (w,l),fA d a,i,b o,i,i,i,i,i))(N:g y x p (.ar j h::z) .normal (fy t.dst (eZ (d++gk (c v) (f.length-c d)) n) u) (cZ d f v)):g y x p (.ar j (t::h)::z) .normal u v:=by simp only[k4]at A;obtain⟨B,C,E,F,I,w,J,K,M,Q,R⟩:=A;exact g.ia S d B C E F I w J K M Q R N
def g.a4{P:aw}{v:Type}{A:al P}{z:Nat}{q:dn}{C:e dz}{w:bd}{x:e Y}{l j:e ah}{u:ah}{t:Z}{O:Array Z}{r:Array ab}{y:ar}{n:e D}{a:e s}{p:e Y}{h:v->e Y}{o:v->s}(Q:bG A y a p o h)(d:e Nat)(E:(u.guard,u.op,g4 (bA w t),j' (O.toList.map (bA w)++fm n),gv (c d) a,dj d x,d8 p,eX d,eU z u.dst)=(k,.call {callee:=.value t,args:=O,argTypes:=r},b (y,n),fA d a,i,b p,i,i,i))(B:∀f,(d8 (h f),aD (c d) (c (h f)))=(i,i))(R:∀f,g A z q (.ar l j::C) .normal (fy u.dst (eZ (d++gk (c x) (c (h f)-c d)) (o f)) w) (cZ d (h f) x)):g A z q (.ar l (u::j)::C) .normal w x:=by simp only[k4]at E B;obtain⟨F,I,J,K,M,y,N,f,S⟩:=E;exact g.eh Q d F I J K M y N (λf=>(B f).1) f (λf=>(B f).2) S R
def mf:e s->e s->Option (e Prop)
 |[],[]=>b []
 |f::a,g::d=>match iU f g with
  |some h=>match mf a d with
   |some j=>b (gh h j)
   |none=>k
  |none=>k
 |_,_=>k
def wj{l:e Y}{q:aj}:∀{z:e I}{O f:e s}{d:e Prop},mf O f=b d->V d->bW l q z O->bW l q z f
 |[],[],[],_,_,_,_=>trivial
 |_::_,[],_,_,_,_,a=>a.elim
 |[],_::_,_,_,_,_,a=>a.elim
 |[],[],_::_,_,a,_,_=>by simp[mf]at a
 |_::_,_::_,[],_,a,_,_=>by simp[mf]at a
 |w::z,r::g,t::h,d,a,j,p=>by
  simp only[mf]at a;cases n:iU r t with
  |none=>grind
  |some u=>
   cases o:mf g h with
   |none=>grind
   |some v=>
    simp[n,o]at a;subst a;rw[V.W]at j;exact⟨m6 n j.1 p.1,wj o j.2 p.2⟩
def g.cp{j:al P}{O:Array Z}{n:ar}(y:bG j n dg dq res a6)(d:e Nat)(q:r.guard=k)(l:r.op=.call {callee:=.value dC,args:=O,argTypes:=dK})(A:g4 (bA F dC)=b (n,cap))(o:mf (O.toList.map (bA F)++fm cap) (fA d dg)=b aB)(p:V aB)(t:gv (c d) dg=i)(u:dj d h=b dq)(C:d8 dq=i)(s:∀f,d8 (a6 f)=i)(E:eX d=i)(w:∀f,aD (c d) (c (a6 f))=i)(D:eU B r.dst=i)(x:∀f,g j B a7 (.ar all bw::ax) .normal (fy r.dst (eZ (d++gk (c h) (c (a6 f)-c d)) (res f)) F) (cZ d (a6 f) h)):g j B a7 (.ar all (r::bw)::ax) .normal F h:=
 e1.eI (λ_ _ _ _=>jZ q) l A d y (λI z v=>wj o p v) t u C s E (λf=>e' (w f)) r.dst a (kE D) x
def TO{d:Act}{a:Nat}(e:a<d.tmps.size):(d.put (b a) ai).tmps.getD a E=ai:=by simp[Act.put,gJ,pJ e]
def cR.of_eq{e a:Array ay}(f:e=a)(g:cR d a):cR d e:=J
def tp{a:Sem I}{e:Sem Next}(g:cR d (a.events P d.a #[]))(f:e=(do pure (.value (<-a)))):cR d (e.events P d.a #[]):=by grind[il]
def EM{d:ar}{fn:Func}{ak:Array I->Sem I}(f:P.funcs[d]?=b fn)(p:(fn.name== "runtime.NumGoroutine")=m)(n:fn.body.isNone=i)(o:Extern.findNext fn=k)(g:Extern.find fn=b ak)(args:Array I)(l:dp P (ak args))(e:af)(a:Array ay):
  (callFunc d args).events P e a=a.push ⟨.mark (.extern d),m,i⟩:=by have j:fn.name≠ "runtime.NumGoroutine":=J;have h:fn.body=k:=so;simp[callFunc,f,j,h,o,g];rw[l e]
section
variable {q:al P}
def d_(P:aw)(q:Nat)(o:ah)(p:bd)(h:e Y)(r:ι->s)(d:ι->e Y):Prop:=
 ∀f j,bQ q h f p j->aZ h f->∃g l a n,(W j.eval o).run P f.a=.ok l a.a/\(l=.value n∨(l=.skip/\n=E))/\bo (d g) a n (r g)/\aZ (d g) a/\cA h f (d g) a/\cR f ((W j.eval o).events P f.a #[])
def g.bO(M:ι->s)(d:ι->e Y)(ag:r.guard=k)(ah:eU B r.dst=i)(T:d_ P B r F h M d)(U:∀p,g q B a7 (.ar all bw::ax) .normal (fy r.dst (M p) F) (d p)):g q B a7 (.ar all (r::bw)::ax) .normal F h:=by
 intro aj O R o Q D w N idx n a C;cases idx with
 |nil=>exact a.elim
 |cons ai idx=>
 refine pP n a.1 (jZ ag) λad x=>?_;have l:=o.rely x;have f:=R.rely x o;obtain⟨p,Z,t,ae,A,j,af,J,K,W⟩:=T ad O f l;have y:=K.tolU l;refine⟨Z,t,ae,A,j,⟨⟨h,d p,l,J,K⟩,W⟩,?_⟩;refine U p t _ ?_ J Q D w N idx n a.2 λS u E v X z j I=>C S u E v X z j ((x.aH.trans y).trans I);cases V:r.dst with
 |none=>exact f.mono y l.len
 |some ab=>exact(f.mono y l.len).put (kE ah ab V) af
def g.aI{a:s}(f:aR P r (bA F) h a aO)(d:r.guard=k)(e:eU B r.dst=i)(j:g q B a7 (.ar all bw::ax) .normal (fy r.dst a F) aO):g q B a7 (.ar all (r::bw)::ax) .normal F h:=
 g.S (.aT (λ_ _ _ _=>jZ d) f) e j
def nj(a:e ah)(f:bd)(h:ah):Bool:=match h.guard with
 |none=>i
 |some (g,d)=>match v_ f a g with
  |some (b i)=>d
  |some (b m)=>!d
  |_=>m
def jY(a:nj all F r=i):∀e h d,bQ B e h F d->aS r (yielded all.toArray d.tmps)=i:=by
 intro e h d g;unfold nj at a;split at a
 .grind [jZ]
 rename_i l j f;split at a
 .rename_i u;simp only[aS,f,v' u g,a];rfl
 .rename_i u;simp only[aS,f,v' u g];grind
 grind
def g.fS{O:Array Z}{n:ar}{f:e Y}{j:s}(x:ad q n dg dq j f)(d:e Nat)(p:nj all F r=i)(l:r.op=.call {callee:=.value dC,args:=O,argTypes:=dK})(z:g4 (bA F dC)=b (n,cap))(o:j' (O.toList.map (bA F)++fm cap)=fA d dg)(u:gv (c d) dg=i)(v:dj d h=b dq)(y:d8 dq=i)(t:d8 f=i)(D:eX d=i)(w:aD (c d) f.length=i)(C:eU B r.dst=i)(A:g q B a7 (.ar all bw::ax) .normal (fy r.dst (eZ (d++gk (c h) (f.length-c d)) j) F) (cZ d f h)):g q B a7 (.ar all (r::bw)::ax) .normal F h:=
 e1.call (jY p) l z d x o u v y t D (e' w) r.dst a (kE C) A
end
section
variable {q:al P}
def g.dF{c':bd}(l:g q B a7 (.code u::ax) .normal c' aO){a:e Prop}(d:hF F c'=b aB)(t:V aB)(f:ip h aO=b a)(j:V a):g q B a7 (.code u::ax) .normal F h:=
 g.bq aO f j (bX.le l (et d t))
def zA:e dz->e dz
 |.blk _::ax=>zA ax
 |ax=>ax
def g.fa:∀{ax:e dz},g q B a7 (zA ax) .normal F h->g q B a7 ax .normal F h
 |[],a=>a
 |.blk _::ax,a=>g.fa (ax:=ax) a
 |.code _::_,a=>a
 |.ar _ _::_,a=>a
def g.b4{o S2:Type}{p:Code}(id:Nat){v D:e dz}(r:hU id ax=b v)(J:Go.AM.zA v=.code p::D)(A:S2->Prop)(dr:S2->bd)(t:S2->e Y)(z:Nat)(s:o->Prop)(d:o->bd)(f:o->e Y)(C:o->Nat)(l:o){a:e Prop}(I:hF F (d l)=b aB)(j:V aB)(E:ip h (f l)=b a)(w:V a)(M:c h=z)(y:s l)(round:(∀(n:S2) {F:bd} {h:e Y} {aB a:e Prop},A n->hF F (dr n)=b aB->V aB->ip h (t n)=b a->V a->g q B a7 v .normal F h) ->
   ∀l,s l->g q B (kZ q B a7 ax s d f C z l) [.code u] .normal (d l) (f l))(after:∀n,A n->g q B a7 (.code p::D) .normal (dr n) (t n)):g q B a7 (.code (.loop u)::ax) .normal F h:=
 g.aN z s d f C l I j E w M y (round λn _ _ _ _ K x j r w=>g.fa (by rw[J];exact(after n K).dF x j r w))
end
def ca(a:an):I:=.string ⟨a.toArray⟩
def s8{a d:an}(e:ca a=ca d):a=d:=by simp only[ca,Value.string.injEq,ByteArray.mk.injEq]at e;grind
def Db{a:ByteArray}{d:an}(e:a.data.toList=d):Value.string a=ca d:=by subst e;simp[ca]
theorem r3{a:an}(e:Rd bi ai (.R a)):ai=ca a/\dx ai=i:=by
 cases e with
 |R d _=>exact⟨Db d,rfl⟩
section
variable {q:al P}
def i7(p:al P)(t:Nat)(n:e s)(l:e Y)(j:Bool)(g:ι->e Y):Prop:=
 ∀a (z:e I) (f:Nat),bW l a z n->aZ l a->(∃L,a.m[t]?=b L/\L.v=.func (.yield f) #[] #[]) ->
  ∃fn tmps assign body,(Instr.yield f z.toArray).run P a.a=.ok (.round f fn tmps assign body) a.a/\(Instr.yield f z.toArray).events P a.a #[]=#[⟨.obj f,m,m⟩] /\
  ∀(o:ae->aj->Prop) (q:az) (h:e az),(∀r d,aZ (g r) d->c6 l a (g r) d->cf p o (G (q.finish (.bool j)) h) d) ->
   cf p o (G (Frame.round f fn tmps assign body .normal) (q::h)) a
def w8{d:Loop}(f:K.heap[l]?=b (.loop d)):(Instr.getLoop l).run P K=.ok d K/\∀a,(Instr.getLoop l).events P K a=a.push ⟨.obj l,m,m⟩:=by
 have e:(getObj l).run P K=.ok (.loop d) K:=by simp only[getObj,Sem.run,f]
 have g:∀a,(getObj l).events P K a=a.push ⟨.obj l,m,m⟩:=λa=>by simp only[getObj,Sem.events,Sem.runT,f];rfl
 constructor
 .simp[Instr.getLoop,e]
 intro a;simp[Instr.getLoop,e,g]
def Bj{e fz:Loop}(d:K.heap[l]?=b (.loop e)):(setObj l (.loop fz)).run P K=.ok () {K with heap:=K.heap.setIfInBounds l (.loop fz)}/\∀a,(setObj l (.loop fz)).events P K a=a.push ⟨.obj l,i,m⟩:=by
 constructor
 .simp only[setObj,Sem.run,d]
 intro a;simp only[setObj,Sem.events,Sem.runT,d];rfl
def Ue{a:Loop}{args:Array I}(h:K.heap[l]?=b (.loop a))(d:args.size=a.params.size):
  (Instr.yield l args).run P K=.ok (.round l a.fn ((a.params.zip args).foldl (λtmps (j,f)=>tmps.setIfInBounds j f) a.tmps) a.assign a.body) K/\(Instr.yield l args).events P K #[]=#[⟨.obj l,m,m⟩]:=by
 obtain⟨e,g⟩:=w8 (P:=P) h;constructor
 .simp[Instr.yield,e,d]
 simp[Instr.yield,e,g,d]
def T8{a:Loop}(g:K.heap[l]?=b (.loop a))(d:a.state=.ready):
  (Instr.beginRound l).run P K=.ok () {K with heap:=K.heap.setIfInBounds l (.loop {a with state:=.busy})}/\(Instr.beginRound l).events P K #[]=#[⟨.obj l,m,m⟩,⟨.obj l,i,m⟩]:=by
 obtain⟨e,h⟩:=w8 (P:=P) g;obtain⟨f,j⟩:=Bj (P:=P) (fz:={a with state:=.busy}) g;constructor
 .simp[Instr.beginRound,e,f,d]
 simp[Instr.beginRound,e,h,f,j,d]
def T'{d:Loop}(g:K.heap[l]?=b (.loop d))(a:Option Code):
  (Instr.endRound l a).run P K=.ok (.bool a.isNone) {K with heap:=K.heap.setIfInBounds l (.loop {d with state:=if a.isNone then .ready else .done,pending:=a})}/\(Instr.endRound l a).events P K #[]=#[⟨.obj l,m,m⟩,⟨.obj l,i,m⟩]:=by
 obtain⟨e,h⟩:=w8 (P:=P) g;obtain⟨f,j⟩:=Bj (P:=P) (fz:={d with state:=if a.isNone then .ready else .done,pending:=a}) g;constructor
 .simp only[Instr.endRound,cn,e,f,cM,dv]
 simp only[Instr.endRound,aE,e,h,f,j,aH,aT];rfl
def T_{a:Loop}(f:K.heap[l]?=b (.loop a))(d:a.state≠.busy):
  (Instr.endLoop l).run P K=.ok a.pending {K with heap:=K.heap.setIfInBounds l (.loop {a with state:=.exhausted})}/\(Instr.endLoop l).events P K #[]=#[⟨.obj l,m,m⟩,⟨.obj l,i,m⟩]:=by
 obtain⟨e,g⟩:=w8 (P:=P) f;obtain⟨j,h⟩:=Bj (P:=P) (fz:={a with state:=.exhausted}) f;have n:(a.state==.busy)=m:=by cases o:a.state<;>simp_all
 constructor
 .simp[Instr.endLoop,e,j,d]
 simp[Instr.endLoop,e,g,h,d]
section steps
variable {j:az}{t:Act}{o:e Item}{fc:Bool}
def Uf{O:Array Z}(cO:r.op=.call {callee:=.value dC,args:=O,argTypes:=dK})(u:t.eval dC=.func (.yield l) #[] #[]):
  (W t.eval r).run P K=(Instr.yield l (O.toList.map t.eval).toArray).run P K/\(W t.eval r).events P K #[]=(Instr.yield l (O.toList.map t.eval).toArray).events P K #[]:=by
 have N:O.map t.eval=(O.toList.map t.eval).toArray:=J;constructor
 .exact Lv
 exact Lv
def Uo{a:e Nat}{fn:ar}{tmps:Array I}{assign body:Code}(d:aP[f]?=b r)(h:aS r (yielded aP t.tmps)=i)(p:j.kind≠.early)(n:(W t.eval r).run P K=.ok (.round l fn tmps assign body) a5):
  ap P fc (G (j.i t (.inRegion aP (f::a)::o)) aY) K=.go (G (Frame.round l fn tmps assign body .normal) (j.i t (.inRegion aP (f::a)::o)::aY)) a5 (Go.Conc.listed P j.fn t r K):=by have g:(j.kind==CallKind.early)=m:=J;rw[xb d h (λq s=>by grind[vK])];simp[stepG.apply,n,G,Frame.i,g,GStep.after,Go.Conc.listed]
def Uj{a:Loop}(h:j.roundOf=b l)(p:j.kind≠.early)(n:K.heap[l]?=b (.loop a))(f:a.state=.ready):
  ap P fc (G (j.i t (.beginRound::o)) aY) K=.go (G (j.i t o) aY) {K with heap:=K.heap.setIfInBounds l (.loop {a with state:=.busy})} (seen P j.fn #[⟨.obj l,m,m⟩,⟨.obj l,i,m⟩]):=by obtain⟨g,e⟩:=T8 (P:=P) n f;have d:(j.kind==CallKind.early)=m:=J;simp[G,ap,stepG.exec,stepG.apply,Frame.i,h,d,g,e,GStep.after,Frame.finish]
def Up{g:Loop}{a:Option Code}{d:e Item}{f:az}(X:j.roundOf=b l)(cI:j.kind=.normal)(h:K.heap[l]?=b (.loop g))(n:(a=k/\d=[])∨(a=b .ret/\∃k1,d=.code .ret::k1)∨(∃id k1,a=b (.exit id)/\d=.code (.exit id)::k1/\exitTo id k1=k)):
  ap P fc (G (j.i t d) (f::aY)) K=.go (G (f.finish (.bool a.isNone)) aY) {K with heap:=K.heap.setIfInBounds l (.loop {g with state:=if a.isNone then .ready else .done,pending:=a})} (seen P j.fn #[⟨.obj l,m,m⟩,⟨.obj l,i,m⟩]):=by
 obtain⟨N,ac⟩:=T' (P:=P) h a;rcases n with⟨rfl,rfl⟩|⟨rfl,k1,rfl⟩|⟨id,k1,rfl,rfl,o⟩
 .simp only[Option.isNone_none,cN]at N;exact JU
 .simp only[Option.isNone_some,cr,jF]at N;exact JU
 simp only[Option.isNone_some,cr,jF]at N;simp[G,ap,stepG.exec,Frame.i,X,N,ac,GStep.after,doReturn,cI,o]
def Uk{a:Loop}(g:K.heap[l]?=b (.loop a))(f:a.state≠.busy):
  ap P fc (G (j.i t (.endRangeFunc l::o)) aY) K=.go (G (j.i t ((a.pending.map Item.code).toList++o)) aY) {K with heap:=K.heap.setIfInBounds l (.loop {a with state:=.exhausted})} (seen P j.fn #[⟨.obj l,m,m⟩,⟨.obj l,i,m⟩]):=by obtain⟨d,e⟩:=T_ (P:=P) g f;simp[G,ap,stepG.exec,Frame.i,d,e,GStep.after]
def Ua{fn:ar}{tmps:Array I}{params:Array Tmp}{assign body:Code}:
  (Instr.enterLoop fn tmps params assign body k).run P K=.ok (K.heap.size+1,[{target:=.collected K.heap.size,args:=#[]}]) {K with heap:=(K.heap.push (.deferred (b []))).push (.loop {state:=.ready,pending:=k,fn,tmps,params,assign,body,defers:=K.heap.size})} /\
  (Instr.enterLoop fn tmps params assign body k).events P K #[]=#[]:=by
 have e:∀(d:Obj) (K:af),(newObj d).run P K=.ok K.heap.size {K with heap:=K.heap.push d}:=λd K=>by simp only[newObj,Sem.run]
 have f:∀(d:Obj) (K:af) a,(newObj d).events P K a=a:=λd K a=>by simp only[newObj,Sem.events,Sem.runT]
 constructor
 .simp[Instr.enterLoop,e];rfl
 simp[Instr.enterLoop,e,f]
def Un{d:Z}{aB:Array Tmp}{assign body:Code}{a:ar}{fn:Func}{f:e I}(y:j.roundOf=k)(s:j.kind≠.early)(u:P.funcs[a]?=b fn)(A:(fn.name== "runtime.NumGoroutine")=m)(z:fn.body.isNone=m)(v:t.eval d=.func (.func a) #[] f.toArray):
  ap P fc (G (j.i t (.code (.rangeFunc d aB assign body)::o)) aY) K =
   .go (G (Frame.enter P a (Value.func (.yield (K.heap.size+1)) #[] #[]::f).toArray .normal) (j.i {t with defers:={target:=.collected K.heap.size,args:=#[]}::t.defers} (.inRangeFunc (K.heap.size+1)::o)::aY))
    {K with heap:=(K.heap.push (.deferred (b []))).push (.loop {state:=.ready,pending:=k,fn:=j.fn,tmps:=t.tmps,params:=aB,assign,body,defers:=K.heap.size})} #[]:=by
 obtain⟨x,w⟩:=Ua (P:=P) (K:=K) (fn:=j.fn) (tmps:=t.tmps) (params:=aB) (assign:=assign) (body:=body);have r:(j.kind==CallKind.early)=m:=J;have q:fn.name≠ "runtime.NumGoroutine":=J;have p:fn.body≠k:=J;have h:∀(g:e Deferred) (n:e Item) (l:FrameMode),({fn:=j.fn,tmps:=t.tmps,todo:=n,defers:=g,mode:=l,kind:=j.kind,roundOf:=j.roundOf}:az).eval d=.func (.func a) #[] f.toArray:=by intro g n l;rw[<-v];cases d<;>rfl
 simp only[G,ap,stepG.exec,Frame.i,y]at h⊢;simp[x,w,GStep.after,stepG.apply,resolve,h,Deferred.ofValue,invoke,callFunc,u,q,p,r,seen];rfl
end steps
end
section
variable {q:al P}
def aZ.fl(j:aZ h d){f:Nat}{a:bd}{o:Loop}(ao:h[f]?=b (.loop B a o))(n:∃L,d.m[f]?=b L/\L.v=.func (.yield l) #[] #[]):
  ∃tmps fn e,d.m[f]?=b ⟨.func (.yield l) #[] #[],[l]⟩/\d.a.heap[l]?=b (.loop {o with tmps:=tmps,fn:=fn,defers:=e})/\tmps.size=B/\(∀p,bo h d (tmps.getD p E) (look a p))/\(∀s,d.n l s=k):=by obtain⟨L,g,q⟩:=n;obtain⟨r,tmps,fn,e,x,u,w,t,v⟩:=j.box f _ L ao g;grind
def aZ.gr(j:aZ h d){n:Nat}{g:bd}{t fz:Loop}{dN:Y}(ao:h[n]?=b (.loop B g t)){tmps:Array I}{fn e:Nat}(w:d.m[n]?=b ⟨.func (.yield l) #[] #[],[l]⟩)(C:d.a.heap[l]?=b (.loop {t with tmps:=tmps,fn:=fn,defers:=e}))(N:tmps.size=B)(A:∀o,bo h d (tmps.getD o E) (look g o))(M:∀s,d.n l s=k)(u:dN=.t∨dN=.loop B g fz):
  aZ (h.set n dN) {d with a:={d.a with heap:=d.a.heap.setIfInBounds l (.loop {fz with tmps:=tmps,fn:=fn,defers:=e})}}/\cA h d (h.set n dN) {d with a:={d.a with heap:=d.a.heap.setIfInBounds l (.loop {fz with tmps:=tmps,fn:=fn,defers:=e})}}:=by
 have T:l<d.a.heap.size:=j.lt _ (bZ w) l Q;have r:∀f,f≠l->(d.a.heap.setIfInBounds l (.loop {fz with tmps:=tmps,fn:=fn,defers:=e}))[f]?=d.a.heap[f]?:=λf v=>by grind
 have S:d.m.set n ⟨.func (.yield l) #[] #[],[l]⟩=d.m:=kT;have R:n<c h:=(cD.1 ao).1;have y:fL (.loop B g t) ⟨.func (.yield l) #[] #[],[l]⟩ dN ⟨.func (.yield l) #[] #[],[l]⟩:=by rcases u with rfl|rfl<;>rfl
 have p:ey h d (h.set n dN) {d with a:={d.a with heap:=d.a.heap.setIfInBounds l (.loop {fz with tmps:=tmps,fn:=fn,defers:=e})}}:=by
  refine⟨λ_ _ _ q=>q,λD x L V z=>?_⟩;by_cases O:n=D
  .grind
  exact⟨x,L,by grind,z,.refl _ _⟩
 have:=j.bQ (b0:=d.n) (a5:={d.a with heap:=d.a.heap.setIfInBounds l (.loop {fz with tmps:=tmps,fn:=fn,defers:=e})}) (dN:=dN) (b7:=⟨.func (.yield l) #[] #[],[l]⟩) ao w y Q (λf _ v=>r f J) (λ_ _ _ _=>rfl) (λ_ _ _ q=>q)
  (λf s K F=>by
   have U:f≠l:=J;rw[<-j.mem f s K F];simp only[aJ]
   grind) (λf v=>by grind) a a a (by
   rcases u with rfl|rfl
   .trivial
   .refine⟨l,tmps,fn,e,a,J,N,λo=>?_,M⟩
    .have:=(A o).mono p j.len
     grind)
 grind
def g.yield{l:ι->e Y}{O:Array Z}{A:Nat}{n:e s}{f:Bool}(an:i7 q A n h f l)(G:r.guard=k)(ar:eU B r.dst=i)(W:r.op=.call {callee:=.value dC,args:=O,argTypes:=dK}){N0:Nat}{ht:bd}{a1:Loop}(C:h[A]?=b (.loop N0 ht a1))(al:bA F dC=.k (.S (.aD A)))(aO:O.toList.map (bA F)=n)(o:∀X,g q B a7 (.ar all bw::ax) .normal (fy r.dst (aL (.bool f)) F) (l X)):g q B a7 (.ar all (r::bw)::ax) .normal F h:=by
 intro aN t aw y j E R ah idx x d V;cases idx with
 |nil=>exact d.elim
 |cons X idx=>
 refine .next a λw aG=>?_;have af:=q.bt aG;have v:=y.rely af;have p:=aw.rely af y;have D:=eO p dC;rw[al]at D;obtain⟨_,L,ad,aH,_⟩:=(show ck _ w _ (.aD A)from D)
 obtain⟨ab,tmps,fn,aK,aq,aM,ay,az,aA⟩:=v.box A _ L C ad;subst aq;have aB:bW h w (O.toList.map t.eval) n:=by grind[nq,eO]
 obtain⟨aJ,aP,assign,body,H,au,ak⟩:=an w (O.toList.map t.eval) ab aB v ⟨_,ad,rfl⟩;obtain⟨aj,ao⟩:=Uf (P:=P) (K:=w.a) (t:=t) W aH;refine⟨_,w,_,Uo d.1 (jZ G) x (aj.trans H),⟨⟨h,h,v,v,.refl _ _⟩,cR.seen ?_⟩,ak ah _ _ λag I z u=>?_⟩
 .rw[ao,au];exact .S (jf (L:=⟨.func (.yield ab) #[] #[],[ab]⟩) (bZ ad) Q)
 have T:=p1 (j:=j) (t:=t) (o:=E) all.toArray X idx (.bool f);rw[d.1]at T;simp only[nC]at T;rw[T];refine o ag I _ ?_ z j E R ah idx x d.2 λaC M ae N aE S U J=>V aC M ae N aE S U ((af.aH.trans u).trans J);cases ai:r.dst with
 |none=>exact p.mono u v.len
 |some aF=>exact(p.mono u v.len).put (kE ar aF ai) (show bo (l ag) I (.bool f) (aL (.bool f))from Rd.bool)
def pR:e Tmp->e s->bd->bd
 |h::f,g::d,a=>pR f d ((h,g)::a)
 |_,_,a=>a
def wT(d:Nat):e Tmp->Bool
 |[]=>i
 |f::a=>match aD (f+1) d with|true=>wT d a|false=>m
def C6{h:Nat}{j:e Y}{n:aj}:∀{f:e Tmp}{a:e s}{z:e I}{F:bd}{t:Act},bQ h j n F t->bW j n z a->wT h f=i->bQ h j n (pR f a F) {t with tmps:=(f.zip z).foldl (λtmps (o,p)=>tmps.setIfInBounds o p) t.tmps}
 |[],a,z,F,t,d,_,_=>by simpa[pR]using d
 |_::_,[],[],F,t,d,_,_=>by simpa[pR]using d
 |_::_,[],_::_,F,t,d,g,_=>g.elim
 |_::_,_::_,[],F,t,d,g,_=>g.elim
 |o::r,N::a,p::z,F,t,d,g,l=>by
  simp only[wT]at l;split at l
  .rename_i q;have:=C6 (d.put (N:=o) (e' q) g.1) g.2 l;simpa[pR,Act.put]using this
  grind
def Sh:Exit->Option (Option Code)
 |.normal=>b k
 |.ret=>b (b .ret)
 |.exit id=>b (b (.exit id))
 |_=>k
def i7.intro{a7:Type}{j n:Nat}{f:bd}{d:Loop}{u:e s}{h:e Y}{R:a7->e Y}{y:Option Code}(aV:h[j]?=b (.loop n f d))(bj:d.state=.ready)(aQ:c u=d.params.size)(bl:wT n d.params.toList=i)(bo:bX q n d.assign (λB D o=>B=.normal/\o[j]?=b (.loop n f d)/\bX q n d.body (λB bc S=>Sh B=b y/\S[j]?=b (.loop n f {d with state:=.busy}) /\
   ∃bq,pq (S.set j (.loop n f {d with state:=if y.isNone then .ready else .done,pending:=y})) (R bq)) D (o.set j (.loop n f {d with state:=.busy}))) (pR d.params.toList u f) h):i7 q j u h y.isNone R:=by
 intro K z l bm ad aP;obtain⟨tmps,fn,bn,Z,aK,aL,aM,bp⟩:=ad.fl aV aP;have ba:c z=d.params.size:=by grind[bW.get]
 obtain⟨a5,a6⟩:=Ue (P:=P) (args:=z.toArray) aK J;refine⟨_,_,_,_,a5,a6,λao ar p aN=>?_⟩;let O:az:={fn:=fn,tmps:=#[],todo:=[],defers:=[],mode:=.run,kind:=.normal,roundOf:=b l}
 have H:O.kind≠.early:=by simp[O]
 have aO:bQ n h K (pR d.params.toList u f) {tmps:=(d.params.zip z.toArray).foldl (λtmps (a4,t)=>tmps.setIfInBounds a4 t) tmps,defers:=[]}:=by
  have:=C6 (t:={tmps:=tmps,defers:=[]}) (F:=f) ⟨aL,⟨[],M⟩,aM⟩ bm bl;have B:(d.params.zip z.toArray).foldl (λtmps (ai:Tmp×I)=>tmps.setIfInBounds ai.1 ai.2) tmps=(d.params.toList.zip z).foldl (λtmps (ai:Tmp×I)=>tmps.setIfInBounds ai.1 ai.2) tmps:=by rw[<-Array.foldl_toList];simp
  grind
 show cf q ao (G (O.i {tmps:=(d.params.zip z.toArray).foldl (λtmps (a4,t)=>tmps.setIfInBounds a4 t) tmps,defers:=[]} [.code d.assign,.beginRound,.code d.body]) (ar::p)) K;refine bo K _ aO ad O [.beginRound,.code d.body] (ar::p) ao H ?_;rintro B D o bs aB ⟨rfl,aU,br⟩ aE w x;refine .next a λa2 ae=>?_;have an:=q.bt ae;have U:=w.rely an;have aF:=aE.rely an w;have bk:∃L,a2.m[j]?=b L/\L.v=.func (.yield l) #[] #[]:=by obtain⟨aw,A,k1,aA,ax⟩:=(x.trans an.aH).box j _ _ aV Z;rw[aU]at k1;cases k1;exact⟨A,aA,ax⟩
 obtain⟨bw,a_,a8,W,X,aG,aH,aJ⟩:=U.fl aU bk;have al:=U.gr (fz:={d with state:=.busy}) aU W X aG aH aJ (.inr rfl);have C:∀{K:aj} {h:e Y} {L:Loc},K.m[j]?=b L->L.V=[l]->cR K #[⟨.obj l,m,m⟩,⟨.obj l,i,m⟩]:=λ{K h L} ab H=>
  .eB (jf (bZ ab) J) (jf (bZ ab) J)
 refine⟨_,_,_,Uj (l:=l) a H X bj,⟨⟨_,_,U,al.1,al.2⟩,cR.seen (C (h:=o) W a)⟩,?_⟩;have bb:=al.2.tolU U;have bh:=al.1;refine br _ aB (aF.mono bb U.len) bh O [] (ar::p) ao H ?_;rintro B bg ay a3 aC ⟨v,aT,aS,bt⟩ f3 E ah;have stA:=((x.trans an.aH).trans bb).trans ah;have fin:∀Q g,cL a3 g->((y=k/\Q=[])∨(y=b .ret/\∃k1,Q=.code .ret::k1)∨(∃id k1,y=b (.exit id)/\Q=.code (.exit id)::k1/\exitTo id k1=k)) ->
   ∃V N T,ap P q.bW (G (O.i aC Q) (ar::p)) g.a=.go V N.a T/\jB g N T/\cf q ao V N:=by
  intro Q g r aq;have au:=E.rely r;have bf:∃L,g.m[j]?=b L/\L.v=.func (.yield l) #[] #[]:=by obtain⟨aw,A,k1,aA,ax⟩:=(stA.trans r.aH).box j _ _ aV Z;rw[aT]at k1;cases k1;exact⟨A,aA,ax⟩
  obtain⟨bu,a',a9,af,ag,h2,aY,aZ⟩:=au.fl aT bf;have ak:=au.gr (fz:={d with state:=if y.isNone then .ready else .done,pending:=y}) aT af ag h2 aY aZ (.inr rfl);obtain⟨a0,a1,_⟩:=bt _ ak.1;exact⟨_,_,_,Up (l:=l) a a ag aq,⟨⟨_,_,au,ak.1,ak.2⟩,cR.seen (C (h:=ay) af a)⟩,aN aS _ a0 (((stA.trans r.aH).trans (ak.2.tolU au)).trans (a1.tolU ak.1))⟩
 cases B with
 |normal=>
  cases v;exact .next a λg r=>fin [] g (q.bt r) (.inl ⟨a,a⟩)
 |ret=>
  cases v;intro pre;exact .next a λg r=>fin _ g (q.bt r) (.inr (.inl ⟨a,pre,a⟩))
 |exit id=>
  cases v;intro pre aR;refine .next a λg r=>fin _ g (q.bt r) (.inr (.inr ⟨id,_,a,a,?_⟩));have:=aR [];simpa[exitTo]using this
 |_=>cases v
end
def de(q:al P)(o:Nat)(v:Code)(aq:dn)(u:bd)(n:e Y):Prop:=
 ∀l r,bQ o n l u r->aZ n l->∀(j:az) (t:e Item) (h:e az) (p:ae->aj->Prop),j.kind≠.early->j.roundOf=k ->
  (∀s f a d g,aq s f a->bQ o a d f g->aZ a d->c6 n l a d->jN q p j t h s g d)->cf q p (G (j.i r (.code v::t)) h) l
section
variable {q:al P}{aq:dn}
def bX.bn(o:bX q B u aq F h):de q B u aq F h:=λr f n d g p a e l _ j=>o r f n d g p a e l j
theorem de.seq{M w:Code}(T:de q B M (uo (de q B w aq) aq) F h):de q B (.seq M w) aq F h:=by
 intro W R U e y I f x E A J;refine .ctl e a (λ_=>n_) λV d=>?_;refine T V R (U.rely d e) (e.rely d) y (.code w::I) f x E A ?_;intro o N O t l K D C v;have z:=d.aH.trans v;cases o with
 |normal=>exact K t l D C y I f x E A λo S j u n s p r g=>J o S j u n s p r (z.trans g)
 |_=>exact jN.cons (λ_ _=>rfl) Q (J _ _ _ _ _ K D C z)
theorem de.block{id:Nat}(w:de q B u (s6 id aq) F h):de q B (.block id u) aq F h:=by
 intro D s y g t o j r A x f;refine .ctl g a (λ_=>w') λz e=>?_;refine w z s (y.rely e g) (g.rely e) t (.inBlock id::o) j r A x ?_;intro ak c' aO l fl be X ac n;have N:=e.aH.trans n;cases ak with
 |normal=>
  exact J'
 |exit d=>
  simp only[s6]at be;split at be
  .exact JW
  .rename_i p
   intro pre tA;have:=f (.exit d) c' aO l fl be X ac N (pre++[.inBlock id]) (λfJ=>by
    rw[mO,tA];have:(id==d)=m:=J
    simp[exitTo,this])
   grind
 |ret=>exact f _ _ _ _ _ be X ac N
 |panic v=>exact f _ _ _ _ _ be X ac N
 |goto C=>exact f _ _ _ _ _ be X ac N
 |outgrown=>exact f _ _ _ _ _ be X ac N
def aZ.jS(a:aZ h d){r:Nat->Prop}(j:∀f,r f->f<d.a.heap.size/\∀L∈d.m,f∉L.V):aZ h {d with own:=r}:=
 ⟨a.mem,a.len,λn e L ao g=>ek.bU (h:=h) (d:=d) (aO:=h) (au:={d with own:=r}) ⟨λ_ _ _ a=>a,λ_ e L a l=>⟨e,L,a,l,.refl _ _⟩⟩ a.len (λ_ _=>⟨rfl,λ_=>rfl⟩) (a.box n e L ao g),a.aL,a.lt,j⟩
def aZ.bH(f:aZ h d){a1:Nat}{r:Nat->Prop}(B:d.own a1)(t:∀j,r j->d.own j)(F:¬r a1)(D:∀C,d.n a1 C=k)(x:d.a.heap[a1]?=b (.deferred (b []))):
  aZ (h++[.a2]) {d with m:=d.m++[⟨.int .i64 a1,[a1]⟩],own:=r}/\eg d {d with m:=d.m++[⟨.int .i64 a1,[a1]⟩],own:=r}:=by
 obtain⟨M,K⟩:=f.own a1 B;have s:ey h d (h++[.a2]) {d with m:=d.m++[⟨.int .i64 a1,[a1]⟩],own:=r}:=by refine⟨λ_ _ _ f=>f,λo p L ao e=>⟨p,L,J,?_,.refl _ _⟩⟩;grind
 refine⟨⟨f.mem,by simp[f.len],?_,?_,?_,?_⟩,⟨a,λ_ _ _ f=>f,λ_ _ _=>rfl,f.mem,?_⟩⟩
 .intro o p L ao e;rcases p5 e with w|⟨g,rfl⟩
  .have g:o<c h:=by rw[<-f.len];grind
   rw[jE g]at ao;exact(f.box o p L ao w).bU s f.len λ_ _=>⟨a,λ_=>rfl⟩
  rw[g,f.len,gK (bE _)]at ao;simp at ao;subst ao;exact⟨a1,a,x,D⟩
 .intro o v L q e n j l u;rcases p5 e with k1|⟨y,rfl⟩<;>rcases p5 n with A|⟨z,rfl⟩
  .exact f.aL o v L q k1 A j l u
  .grind
  .grind
  grind
 .intro L e j l;simp only[fu,eN]at e;rcases e with e|rfl
  .exact f.lt L e j l
  grind
 .intro j l;obtain⟨I,E⟩:=f.own j (t j l);grind
 grind
def wP:Option Code->Option Exit
 |none=>b .normal
 |some .ret=>b .ret
 |some (.exit id)=>b (.exit id)
 |_=>k
def de.rangeFunc{bU:Z}{aB:Array Tmp}{assign body:Code}{bK:ar}{oJ:e s}{aO:ι->e Y}{fz:ι->Loop}(aL:∀d v,bQ B h d F v->aZ h d->∃a7:e I,v.eval bU=.func (.func bK) #[] a7.toArray/\bW h d a7 oJ)(aM:bG q bK (.k (.S (.aD (c h)))::oJ) (h++[.loop B F {state:=.ready,pending:=k,fn:=0,tmps:=#[],params:=aB,assign:=assign,body:=body,defers:=0}]) res aO)(br:∀t,(aO t)[c h]?=b (.loop B F (fz t))/\(fz t).state≠.busy)(o:∀t,∃ay,wP (fz t).pending=b ay/\aq ay F ((aO t).set (c h) .t++[.a2])):de q B (.rangeFunc bU aB assign body) aq F h:=by
 intro d v bk aP j z aY bL n aV bq;obtain⟨⟨fn,aN,ae,C⟩,D⟩:=aM;refine .next a λf aT=>?_;have ag:=q.bt aT;have w:=aP.rely ag;have E:=bk.rely ag aP;obtain⟨a7,bz,H⟩:=aL f v E w;generalize aU:f.a.heap.size=a1;have b2:=λfc=>Un (P:=P) (fc:=fc) (o:=z) (aY:=aY) (aB:=aB) (assign:=assign) (body:=body) (j:=j) (K:=f.a) aV n aN ae C bz;rw[aU]at b2;let w1:af:={f.a with heap:=f.a.heap.push (.deferred (b []))}
 let a3:Loop:={state:=.ready,pending:=k,fn:=j.fn,tmps:=v.tmps,params:=aB,assign:=assign,body:=body,defers:=a1}
 let w2:af:={f.a with heap:=(f.a.heap.push (.deferred (b []))).push (.loop a3)}
 have bY:w2.heap.size=a1+2:=J;have bx:w1.heap.size=a1+1:=J;have aQ:∀j,j<f.a.heap.size->w1.heap[j]?=f.a.heap[j]?:=λj n=>by grind
 have ad:∀j,j<w1.heap.size->w2.heap[j]?=w1.heap[j]?:=λj n=>by grind
 have bO:∀j,j<f.a.heap.size->w2.heap[j]?=f.a.heap[j]?:=λj n=>by grind
 have bA:w2.heap[a1]?=b (.deferred (b [])):=J;have ah:w2.heap[a1+1]?=b (.loop a3):=J;have bC:∀j,f.a.heap.size<=j->∀r,f.n j r=k:=λj n r=>by
  cases T:f.n j r with
  |none=>rfl
  |some al=>have:=w.block T;omega
 let l:Loc:=⟨.func (.yield (a1+1)) #[] #[],[a1+1]⟩
 let O:Loc:=⟨.int .i64 a1,[a1]⟩
 let N:Loop:={state:=.ready,pending:=k,fn:=0,tmps:=#[],params:=aB,assign:=assign,body:=body,defers:=0}
 obtain⟨bm,bo⟩:=w.cF (b0:=f.n) (a5:=w2) x bO (λ_ _ _=>rfl) (λj n r al T=>by grind) rfl rfl rfl;have a_:ey h f (h++[.loop B F N]) ⟨f.m++[l],f.n,w2,f.own⟩:=by refine⟨λ_ _ _ bp=>bp,λb1 bR L ao g=>⟨bR,L,J,?_,.refl _ _⟩⟩;grind
 obtain⟨X,b7⟩:=bm.bL (bR:=.loop B F N) (L:=l) bo rfl w ⟨a1+1,v.tmps,j.fn,a1,rfl,ah,E.size,λb'=>(E.aC b').mono a_ w.len,λr=>bC _ x r⟩ (λj n=>by grind)
 have aH:=X.jS (r:=λj=>f.own j∨j=a1) (by
  rintro j (n|rfl)
  .exact X.own j n
  .refine⟨by grind,λL g=>?_⟩;simp only[fu,eN]at g;rcases g with g|rfl
   .intro aw;have:=w.lt L g j aw;omega
   grind)
 have d1:=w.dG;obtain⟨ba,bb⟩:=d1.cF (b0:=f.n) (a5:=w1) x aQ (λ_ _ _=>rfl) (λj n r al T=>by grind) rfl rfl rfl;obtain⟨az,bc⟩:=ba.bL (bR:=.t) (L:=O) bb rfl d1 M (λj n=>by grind);obtain⟨bd,bf⟩:=az.cF (b0:=f.n) (a5:=w2) J ad (λ_ _ _=>rfl) (λj n r al T=>by grind) rfl rfl rfl;obtain⟨bg,bh⟩:=bd.bL (bR:=.t) (L:=l) bf rfl az M (λj n=>by grind);have aJ:eg ⟨f.m++[O]++[l],f.n,w2,f.own⟩ ⟨f.m++[l],f.n,w2,λj=>f.own j∨j=a1⟩:=by
  refine⟨a,λ_ _ _ bp=>bp,λ_ _ _=>rfl,X.mem,?_⟩;rintro j ((n|rfl)|⟨L,g,n⟩)
  .grind
  .exact .inr ⟨O,by simp,by grind⟩
  grind
 refine⟨_,⟨f.m++[O]++[l],f.n,w2,f.own⟩,_,b2 q.bW,⟨⟨_,_,d1,bg,bc.trans bh⟩,.nil⟩,.aK aJ (D _ (Value.func (.yield (a1+1)) #[] #[]::a7) ?_ aH bL _ λt bV al b9 b3 bw U a6=>?_)⟩
 .refine⟨⟨λbR A=>?_,l,?_,a,a⟩,?_⟩
  .rw[gK (bE _)]at A;simp at A;subst A;rfl
  .show (f.m++[l])[c h]?=_;rw[<-w.len,gK (bE _)];simp
  exact H.mono (h:=h) (d:=f) (aO:=h++[.loop B F N]) (au:=⟨f.m++[l],f.n,w2,λj=>f.own j∨j=a1⟩) ⟨a_.mem,a_.box⟩ w.len
 have ab:(j.i {v with defers:={target:=.collected a1,args:=#[]}::v.defers} (.inRangeFunc (a1+1)::z)).finish al=j.i {v with defers:={target:=.collected a1,args:=#[]}::v.defers} (.endRangeFunc (a1+1)::z):=cF;refine vh (aY:=aY) (u:=j.i {v with defers:={target:=.collected a1,args:=#[]}::v.defers} (.inRangeFunc (a1+1)::z)) U b3 λb_ bT=>?_;rw[ab];refine .next a λS b6=>?_;have bS:=q.bt b6;have a8:=(U.rely bT).rely bS;have bP:=(a6.trans bT.aH).trans bS.aH;obtain⟨bJ,aR⟩:=br t;have aK:∃L,S.m[c h]?=b L/\L.v=.func (.yield (a1+1)) #[] #[]:=by obtain⟨dN,an,k1,a0,a2⟩:=bP.box (c h) (.loop B F N) l (show(h++[Y.loop B F N])[c h]?=_ from List.getElem?_concat_length) (by show(f.m++[l])[c h]?=_;rw[<-w.len,gK (bE _)];simp);rw[bJ]at k1;cases k1;exact⟨an,a0,a2⟩
 obtain⟨b4,aA,ax,ai,a4,h2,bD,bF⟩:=a8.fl bJ aK;obtain⟨R,ak⟩:=a8.gr (fz:={fz t with state:=.exhausted}) (dN:=.t) bJ ai a4 h2 bD bF (.inl rfl);refine⟨_,_,_,Uk a4 aR,⟨⟨_,_,a8,R,ak⟩,cR.seen (.eB (jf (bZ ai) Q) (jf (bZ ai) Q))⟩,?_⟩;have y:=bP.trans (ak.tolU a8);generalize bX:({S with a:={S.a with heap:=S.a.heap.setIfInBounds (a1+1) (.loop {{fz t with state:=.exhausted}with tmps:=b4,fn:=aA,defers:=ax})}}:aj)=p at R ak y;have aG:p.own a1:=by rw[y.own];grind
 have aF:p.a.heap[a1]?=b (.deferred (b [])):=by rw[y.aG a1 (.inr a)];omega
 have aE:∀r,p.n a1 r=k:=λr=>by rw[y.ba a1 J (λL g=>(aH.own a1 (.inr a)).2 L g)];grind
 obtain⟨bH,t2⟩:=R.bH (a1:=a1) (r:=f.own) aG (λj n=>by rw[y.own];grind) (λaw=>by have:=(w.own a1 aw).1;omega) aE aF;refine .aK t2 ?_;have a':c6 h f ((aO t).set (c h) .t++[.a2]) {p with m:=p.m++[⟨.int .i64 a1,[a1]⟩],own:=f.own}:=by
  refine⟨J,λj n=>?_,λj r al T=>y.mem j r al T,λj n b8 r=>?_,λL g j n=>?_,λb1 bR L ao g=>?_,y.os,y.tape,y.output,a⟩
  .show p.a.heap[j]?=_;rw[y.aG j (.inl n)];exact bO j (w.own j n).1
  .show p.n j r=_;rw[y.ba j J (λL g=>?_)];grind
  .simp only[fu,eN]at g;rcases g with g|rfl
   .rcases y.bp L g j n with aC|⟨b5,aC,cY⟩
    .grind
    grind
   grind
  have bt:=(cD.1 ao).1;have bs:=(cD.1 g).1;obtain⟨dN,an,k1,a0,a2⟩:=y.box b1 bR L J J;grind
 have bj:bQ B ((aO t).set (c h) .t++[.a2]) {p with m:=p.m++[⟨.int .i64 a1,[a1]⟩],own:=f.own} F {v with defers:={target:=.collected a1,args:=#[]}::v.defers}:=by
  have T:=E.mono a' w.len;obtain⟨bB,W⟩:=E.defers;refine⟨T.size,⟨c ((aO t).set (c h) .t)::bB,⟨⟨J,⟨.int .i64 a1,[a1]⟩,a1,?_,a,a⟩,λaw=>?_,W.mono a'.ext⟩⟩,T.aC⟩
  .show (p.m++_)[_]?=_;rw[<-R.len,gK (bE _)];simp
  have aC:=W.eN _ aw;grind
 obtain⟨ay,A,bu⟩:=o t;have bI:=bq ay F _ _ _ bu bj bH (ag.aH.trans a');revert A;show wP (fz t).pending=b ay->cf q bL (G (j.i _ (((fz t).pending.map Item.code).toList++z)) aY) _;intro A;cases aS:(fz t).pending with
 |none=>rw[aS]at A;cases A;exact bI
 |some u=>
  rw[aS]at A;cases u<;>simp only[wP,reduceCtorEq,eA]at A
  .subst A;exact bI [] bN
  subst A;exact bI z
def bQ.callee{g:Nat}{n:ar}(f:look F g=aL (.fn (.func n) [] cap)):∀l a,bQ B h l F a->aZ h l->∃j:e I,a.eval (.tmp g)=.func (.func n) #[] j.toArray/\bW h l j (fm cap):=by
 intro l a q _;have d:=q.aC g;rw[f]at d;have d:=b2 d;show ∃j:e I,a.tmps.getD g E=.func (.func n) #[] j.toArray/\_;generalize a.tmps.getD g E=y at d;cases d with
 |fn t p f o r s u v w x=>
  grind[q0]
def bG.ff{j:ar}{fn:Func}{args:e s}{aO:ι->e Y}(v:P.funcs[j]?=b fn)(r:(fn.name== "runtime.NumGoroutine")=m)(I:fn.body=b u)(C:aD args.length fn.ntmps=i)(D:jA args h->de q fn.ntmps u (λB w l=>∃t,b3 fn h.length (res t) (aO t) B w l) (hh 0 args) h):bG q j args h res aO:=by refine⟨⟨fn,v,r,by grind⟩,λg z d a=>?_⟩;exact(bG.hl v r I (e' C) λJ y j E A F n x p f o=>D ⟨g,z,d,a⟩ J y j E A F n x p f o).2 g z d a
def Mh(fn:Func)(g:s)(a:e Y):dn:=λl n h=>
 (l=.ret∨l=.normal)/\h=a/\jq a=i/\∃d j f,nd n fn.results.toList=b d/\nX d=b j/\iU j g=b f/\V f
def bG.f'{o:ar}{fn:Func}{args:e s}{j:ι->e Y}(ab:P.funcs[o]?=b fn)(au:(fn.name== "runtime.NumGoroutine")=m)(aG:fn.body=b u)(X:aD args.length fn.ntmps=i)(ao:bX q fn.ntmps u (λak ah l=>∃Z,Mh fn (res Z) (j Z) ak ah l) (hh 0 args) h):bG q o args h res j:=by
 refine⟨⟨fn,ab,au,by grind⟩,λaB z R O W n N=>?_⟩;obtain⟨aq,C⟩:=bW.get R;let v:az:={fn:=o,tmps:=#[],todo:=[],defers:=[],mode:=.run,kind:=.normal,roundOf:=k}
 have aj:Frame.enter P o z.toArray .normal=v.i {tmps:=z.toArray++Array.replicate (fn.ntmps-z.toArray.size) E,defers:=[]} [.code u]:=by simp[Frame.enter,Frame.i,ab,aG,v]
 rw[aj];have X:=e' X;refine ao aB {tmps:=z.toArray++Array.replicate (fn.ntmps-z.toArray.size) E,defers:=[]} ⟨by grind,⟨[],M⟩,λw=>?_⟩ O v [] n W Q ?_
 .rw[wn];simp only[jG,cN,pF];have:=C w;rcases dJ w (c z) with aK|aJ
  .exact Ln
  rw[u1 x];trivial
 rintro ak ai l U g ⟨D,T,rfl,ax,y,al,ay,J,K,ag,ae⟩ af t V;have fin:∀(d:az) f,cL U f->d.fn=o->d.tmps=g.tmps->d.defers=g.defers->d.mode=.returning->d.kind=.normal->cf q W (G d n) f:=by
  intro d f a A B an F I;have p:=af.rely a t;obtain⟨aC,aF,H,aE⟩:=HL (P:=P) p J K;obtain⟨r,S⟩:=p.defers;have aH:g.defers=[]:=by
   cases r with
   |nil=>cases aA:g.defers with
    |nil=>rfl
    |cons al y=>rw[aA]at S;exact S.elim
   |cons aw r=>exact absurd rfl (tP ax _ (bZ (S.eN aw Q)))
  refine N D d aC _ ⟨A,F,by grind,I,fn,by grind,λad _=>?_⟩ (m6 ag ae H) (t.rely a) (V.trans a.aH);rw[B];exact⟨aF ad,λak T=>by rw[aE ad #[]]at T;grind⟩
 rcases T with rfl|rfl
 .intro pre;exact .ctl t rfl (λ_=>Bp rfl) λf a=>fin _ f a rfl rfl (iJ _) rfl rfl
 exact .ctl t rfl (λ_=>Bn rfl) λf a=>fin _ f a rfl rfl (iJ _) rfl rfl
end
structure sH{P:aw}(q:al P)(B:Nat)(aP:Array ah)(F:bd)(h:e Y)(A:Nat->s)(u:Nat->bd)(idx:Nat->Option Nat)(last:Nat):Prop where
 cR:∀f r,aP[f]?=b r->∀ak∈r.after,eD ak=i->ak.on<f
 eL:∀f r N,aP[f]?=b r->r.dst=b N->idx N=b f/\N<B
 dp:∀N f,idx N=b f->∃r,aP[f]?=b r/\r.dst=b N
 S:∀f r,aP[f]?=b r->f≠last->a0 q B aP.toList r (u f) h (A f) h
 eG:∀f r,aP[f]?=b r->f≠last->∀w h d ai,bo h d ai (match idx w with|some y=>(if ∃ak∈r.after,eD ak=i/\ak.on=y then A y else .any)|none=>look F w)->bo h d ai (look (u f) w)
 g1:∀r,aP[last]?=b r->∀y,y<aP.size->y≠last->∃ak∈r.after,eD ak=i/\ak.on=y
 dR:last<aP.size
section
variable {q:al P}{A:Nat->s}{u:Nat->bd}{idx:Nat->Option Nat}{last:Nat}
theorem Gn{a e:Nat}(l:∀d,d<aP.size->L.getD d i=i):Region.linearise.go .any aP a e L []=[]:=by
 cases a with
 |zero=>exact Aw e L
 |succ n=>
  have f:aQ .any aP L=[]:=by
   cases f:aQ .any aP L with
   |nil=>rfl
   |cons g h=>
    have j:g∈aQ .any aP L:=J;grind[nZ]
  grind[tK]
def sH.eE(n:sH q B aP F h A u idx last){aq:ae->aj->Prop}{z:az}{O:e Item}(X:z.kind≠.early){cy:aj}(af:∀g l,l.tmps.size=B->(∀d,bo h g (l.tmps.getD d E) (match idx d with|some r=>if r=last then .any else A r|none=>look F d))->l.defers=[]->aZ h g->c6 h cy h g->cf q aq (G (z.i l (.inRegion aP [last]::O)) aY) g):
  ∀(N:Nat) (L:Array Bool),L.size=aP.size->c (L.toList.filter (λz=>!z))<=N->¬L.getD last m=i ->
   (∀f y,aP[f]?=b y->L.getD f m=i->∀j∈y.after,eD j=i->L.getD j.on m=i) ->
   ∀(g:aj) (l:Act),kW B h g (fW F A idx L) l->l.defers=[]->aZ h g->c6 h cy h g ->
   ∀d,cf q aq (G (z.i l (.inRegion aP (Region.linearise.go .any aP N d L [])::O)) aY) g:=by
 intro N;induction N with
 |zero=>
  intro L al ag ao aJ g l v T w R d;exfalso;have V:L[last]'(by have:=n.dR;omega)∈L.toList:=by simp
  have aC:=n.dR;cases X:L[last]'x with
  |true=>exact ao (by simp[gJ,gW (by omega:last<L.size),X])
  |false=>
   have:L[last]'x∈L.toList.filter (λz=>!z):=lZ.2 ⟨V,by grind⟩;grind
 |succ N an=>
  intro L al ag ao aJ g l v T w R d;rw[tK];cases aA:(aQ .any aP L)[d % c (aQ .any aP L)]? with
  |none=>
   exfalso;have ak:aQ .any aP L=[]:=by
    cases ak:aQ .any aP L with
    |nil=>rfl
    |cons aR aO=>
     grind[Nat.mod_lt]
   have aB:∀f,f<aP.size->L.getD f m=i:=by
    intro f;induction f using Nat.strongRecOn with
    |_ f ax=>
     intro M;cases X:L.getD f m with
     |true=>rfl
     |false=>
      have V:f∈aQ .any aP L:=nZ.2 ⟨aP[f],gW M,by
       grind,λj Z Y=>by
       have:=n.cR f _ (gW M) j Z Y
       grind⟩
      grind
   exact ao (aB last n.dR)
  |some f=>
   have M:=bZ aA;obtain⟨y,s,aw,ai⟩:=nZ.1 M;have aC:f<aP.size:=(hM.1 s).1;have H:¬L.getD f m=i:=J;by_cases ar:f=last
   .subst ar;have C:Region.linearise.go .any aP N (d / c (aQ .any aP L)) (L.setIfInBounds f i) []=[]:=by
     refine Gn λr ah=>?_;have au:(L.setIfInBounds f i).getD r m=i:=by
      rw[lk x];by_cases j:r=f
      .grind
      obtain⟨ad,Z,Y,rfl⟩:=n.g1 y s r ah j;grind
     grind
    simp only[C];refine af g l v.size (λd=>?_) T w R;have:=v.aC d;unfold fW at this;cases o:idx d with
    |none=>grind
    |some r=>
     simp only[o]at this⊢;obtain⟨tR,bk,_⟩:=n.dp _ _ o;by_cases j:r=f
     .rw[bF j];trivial
     rw[bp j];obtain⟨ad,Z,Y,rfl⟩:=n.g1 y s r (hM.1 bk).1 j;grind
   have aL:(L.setIfInBounds f i).size=aP.size:=J;have aK:c ((L.setIfInBounds f i).toList.filter (λz=>!z))<=N:=by have K:L.toList[f]?=b m:=Lx;grind[vE]
   have ay:∀r W,aP[r]?=b W->(L.setIfInBounds f i).getD r m=i->∀j∈W.after,eD j=i->(L.setIfInBounds f i).getD j.on m=i:=uH;have aM:¬(L.setIfInBounds f i).getD last m=i:=uH
   have aG:bQ B h g (u f) l:=v.eZ λd h g S D=>n.eG f y s ar d h g S (by
    unfold fW at D;cases o:idx d with
    |none=>grind
    |some r=>
     simp only[o]at D⊢;split
     .grind
     .trivial)
   have aN:∀(t:aj) (S:I),c6 h g h t->bo h t S (A f)->kW B h t (fW F A idx (L.setIfInBounds f i)) (l.put y.dst S):=by
    intro t S Q D;cases T:y.dst with
    |none=>
     refine⟨v.size,v.defers.imp λ_ K=>K.mono Q.ext,λd=>?_⟩;have p:=(v.aC d).mono Q.ext w.len;simp only[Act.put];unfold fW at p⊢;cases o:idx d with
     |none=>grind
     |some r=>
      exact KS
    |some ab=>
     obtain⟨U,aF⟩:=n.eL f y ab s T;refine⟨by simp[Act.put,v.size],v.defers.imp λ_ K=>K.mono Q.ext,λd=>?_⟩;simp only[Act.put];by_cases j:ab=d
     .subst j;have aE:ab<l.tmps.size:=by rw[v.size];exact aF
      simp only[gJ,pJ aE,hO];unfold fW;simp only[U];rw[bF ((lk x).2 (.inl a))];exact D
     have p:=(v.aC d).mono Q.ext w.len;simp only[gJ]at p⊢;rw[nz j];unfold fW at p⊢;cases o:idx d with
     |none=>grind
     |some r=>
      exact KS
   have:=n.S f y s ar g l aG w z O aY aq f (Region.linearise.go .any aP N (d / c (aQ .any aP L)) (L.setIfInBounds f i) []) X J;simp only[va]at this;exact this λS t D aH Q=>an _ aL aK aM ay t _ (aN _ _ Q D) (by cases y.dst<;>exact T) aH (R.trans Q) _
theorem sH.region(I:sH q B aP F h A u idx last)(N:P.follows Departure.mixedOrders=i){D:ae->aj->Prop}{v:az}{o:e Item}(O:v.kind≠.early){cy:aj}{g:Act}{id:Nat}(w:bQ B h cy F g)(M:g.defers=[])(z:aZ h cy)(R:∀t p,p.tmps.size=B->(∀j,bo h t (p.tmps.getD j E) (match idx j with|some x=>if x=last then .any else A x|none=>look F j))->p.defers=[]->aZ h t->c6 h cy h t->cf q D (G (v.i p (.inRegion aP [last]::o)) aY) t):
  cf q D (G (v.i g (.code (.region id aP i)::o)) aY) cy:=by
 refine .next a λd n=>?_;have n:=q.bt n;have l:=z.rely n;have J:=w.rely n z;have y:cA h d h {d with a:={d.a with drawn:=d.a.drawn+1}}:=cA.same rfl rfl rfl rfl;have C:aZ h {d with a:={d.a with drawn:=d.a.drawn+1}}:=l.same rfl;have K:=n.aH.trans (y.tolU l);refine⟨_,{d with a:={d.a with drawn:=d.a.drawn+1}},#[],Bo,⟨⟨h,h,l,C,y⟩,.nil⟩,?_⟩;simp only[Region.schedule,N,Bool.true_or,cN];refine I.eE O (cy:=cy) R aP.size _ Q Q uD Cc _ g ?_ M C K _;have s:=J.mono (y.tolU l) l.len;refine⟨s.size,s.defers,λj=>?_⟩;unfold fW;cases S:idx j with
 |none=>exact s.aC j
 |some x=>
  simp only;rw[bp]
  .exact s.aC j
  exact uD
end
def d'(r:al P)(y:Nat)(a:e ah)(v:ah)(x:bd)(n:e Y)(z:ι->s)(g:ι->e Y):Prop:=
 ∀l o,bQ y n l x o->aZ n l->∀(p:az) (u:e Item) (h:e az) (q:ae->aj->Prop) (t:Nat) (d:e Nat),p.kind≠.early->a.toArray[t]?=b v ->
  (∀j w f,bo (g j) f w (z j)->aZ (g j) f->c6 n l (g j) f->cf r q (G (p.i (o.put v.dst w) (.inRegion a.toArray d::u)) h) f)->cf r q (G (p.i o (.inRegion a.toArray (t::d)::u)) h) l
def om:e ah->Nat->(Nat->s)->e (Option Nat×s)
 |[],_,_=>[]
 |f::g,a,d=>(f.dst,d a)::om g (a+1) d
def BW{h:Nat->s}:∀{g:e ah}{d a:Nat},(om g d h)[a]?=(g[a]?).map λf=>(f.dst,h (d+a))
 |[],d,a=>by simp[om]
 |f::j,d,0=>by simp[om]
 |f::j,d,a+1=>by simp only[om,nA];rw[BW,show d+1+a=d+(a+1) by omega]
def dr(a:e ah)(d:bd)(h:Nat->s)(f:Nat):bd:=fq (λg=>eW g (c7 (a.getD f fx).after.toList)) 0 (om a 0 h) (lA a d)
def mZ(a:e ah)(d:bd)(f:Nat->s):bd:=fq (λ_=>i) 0 (om a 0 f) (lA a d)
def nL(a:Nat):e ah->Bool
 |[]=>i
 |d::f=>match eU a d.dst with|true=>nL a f|false=>m
def EG{g:Nat}:∀{h:e ah},nL g h=i->∀(a:Nat)(d:ah),h[a]?=b d->eU g d.dst=i
 |[],_,a,d,f=>by grind
 |n::o,f,a,d,j=>by
  simp only[nL]at f;split at f
  .rename_i l;cases a with
   |zero=>grind
   |succ a=>exact EG f a d J
  grind
def nF:e ah->Nat->Bool
 |[],_=>i
 |d::f,a=>match rE a (c7 d.after.toList)with|true=>nF f (a+1)|false=>m
def C3:∀{l:e ah}{j:Nat},nF l j=i->∀(a:Nat)(f:ah),l[a]?=b f->∀h∈c7 f.after.toList,h<j+a
 |[],_,_,a,f,g=>by grind
 |p::q,j,g,a,f,d=>by
  simp only[nF]at g;split at g
  .rename_i n;cases a with
   |zero=>simp at d;subst d;exact Ay n
   |succ a=>intro h o;have:=C3 g a f J h o;omega
  grind
def ve(pre:Nat->Bool):e Nat->Bool
 |[]=>m
 |a::d=>match pre a with|true=>ve pre d|false=>i
theorem CW{pre:Nat->Bool}:∀{f:e Nat},ve pre f=i->∃d∈f,pre d=m
 |[],a=>by cases a
 |d::l,a=>by
  simp only[ve]at a;split at a
  .obtain⟨g,h,j⟩:=CW a;grind
  grind
def nH(pre:Nat->Bool)(d:Nat):e ah->Nat->Bool
 |[],_=>i
 |g::f,a=>match pre a with
  |true=>nH pre d f (a+1)
  |false=>match aa a d with
   |true=>nH pre d f (a+1)
   |false=>match ve pre (c7 g.after.toList)with|true=>nH pre d f (a+1)|false=>m
theorem D'{pre:Nat->Bool}{h:Nat}:∀{l:e ah}{f:Nat},nH pre h l f=i->∀(a:Nat)(g:ah),l[a]?=b g->pre (f+a)=m->f+a≠h->∃q∈c7 g.after.toList,pre q=m
 |[],_,_,a,g,j=>by grind
 |s::r,f,j,a,g,d=>by
  intro n o;simp only[nH]at j;cases a with
  |zero=>
   simp at d;subst d;simp only[iK]at n o;grind[Nat.eq_of_beq_eq_true,CW]
  |succ a=>
   have p:nH pre h r (f+1)=i:=J;exact D' p a g J J x
section
variable {q:al P}{idx:Nat->Option Nat}
def RC{j:Nat->s}{n:Act}(t:∀a h d g,bo h d g (match idx a with|some l=>(if ∃e∈r.after,eD e=i/\e.on=l then j l else .any)|none=>look F a)->bo h d g (look (dr aP.toList F j f) a))(q:kW B h d (fW F j idx L) n)(u:∀e∈r.after,eD e=i->L.getD e.on m=i):bQ B h d (dr aP.toList F j f) n:=q.eZ λa h d g o=>t a h d g (by
 unfold fW at o;cases p:idx a with
 |none=>grind
 |some l=>
  simp only[p]at o⊢;split
  .grind
  .trivial)
def WE{v t:Nat->s}{l:e Y}{q:Act}(w:∀g,r.dst=b g->idx g=b f/\g<B)(O:∀g p,idx g=b p->∃r,aP[p]?=b r/\r.dst=b g)(C:aP[f]?=b r)(N:f<L.size)(Q:∀p,L.getD p m=i->t p=v p)(y:c d.m=c h)(n:c6 h d l au)(o:kW B h d (fW F v idx L) q)(M:bo l au ai (t f)):kW B l au (fW F t idx (L.setIfInBounds f i)) (q.put r.dst ai):=by
 have old:∀j,idx j≠b f->bo l au (q.tmps.getD j E) (fW F t idx (L.setIfInBounds f i) j):=by intro j R;have z:=(o.aC j).mono n.ext y;unfold fW at z⊢;grind[lk]
 cases K:r.dst with
 |none=>
  refine⟨o.size,o.defers.imp λ_ u=>u.mono n.ext,λj=>?_⟩;refine old j λA=>?_;grind
 |some g=>
  obtain⟨D,J⟩:=w g K;refine⟨by simp[Act.put,o.size],o.defers.imp λ_ u=>u.mono n.ext,λj=>?_⟩;simp only[Act.put];by_cases x:g=j
  .subst x;have I:g<q.tmps.size:=by rw[o.size];exact J
   simp only[gJ,pJ I,hO];unfold fW;simp only[D];rw[bF ((lk N).2 (.inl a))];exact M
  have:=old j (λA=>by grind);simp only[gJ]at this⊢;grind
def Mx{MP:∀a f,aP[a]?=b f->∀d∈f.after,eD d=i->d.on<a}(p:L.size=aP.size)(n:aQ .any aP L=[]):∀a,a<aP.size->L.getD a m=i:=by
 intro a;induction a using Nat.strongRecOn with
 |_ a g=>
  intro e;cases o:L.getD a m with
  |true=>rfl
  |false=>
   have j:a∈aQ .any aP L:=nZ.2 ⟨aP[a],gW e,by grind,λd l h=>by grind⟩;grind
def SU{a:Nat}(d:(aQ .any aP L)[a % c (aQ .any aP L)]?=k):aQ .any aP L=[]:=by
 cases f:aQ .any aP L with
 |nil=>rfl
 |cons g e=>
  grind[Nat.mod_lt]
theorem My(h:L.size=aP.size)(j:c (L.toList.filter (λd=>!d))<=0):∀a,a<aP.size->L.getD a m=i:=by
 intro a g;have e:L[a]'x∈L.toList:=Q;cases f:L[a]'x with
 |true=>simp[gJ,gW (by omega:a<L.size),f]
 |false=>
  have:L[a]'x∈L.toList.filter (λd=>!d):=lZ.2 ⟨e,by grind⟩;grind
end
def du(d:Nat)(s:Nat->Bool):Nat->Bool:=λa=>match aa a d with|true=>i|false=>s a
section
variable {q:al P}{X:Type}{A:X->Nat->s}{idx:Nat->Option Nat}{bg:X->(Nat->Bool)->e Y}{e2:X->(Nat->Bool)->Prop}{u:Nat}
def je(L:Array Bool):Nat->Bool:=λa=>L.getD a m
def NF(a:f<L.size):je (L.setIfInBounds f i)=du f (je L):=by funext y;have d:=lk (L:=L) (f:=f) (y:=y) a;simp only[je,du];grind[Nat.eq_of_beq_eq_true,Nat.beq_refl]
def Nl{u:Nat}(j:L.size=p)(h:∀f,u<=f->¬L.getD f m=i):p-u<=c (L.toList.filter (λa=>!a)):=by
 have l:(L.toList.drop u).filter (λa=>!a)=L.toList.drop u:=by rw[u5];intro a g;obtain⟨e,d,rfl⟩:=ft g;have:=h (u+e) x;simp only[u2,lV]at d;simp only[gJ,gW (by omega:u+e<L.size),hO]at this;grind
 grind[List.drop_sublist]
theorem mI.il(a:e ah)(d:Nat):mI a (List.range' d (c a-d)) (a.drop d):=by
 have key:∀(f:e ah) (p:Nat),(∀y r,f[y]?=b r->a[p+y]?=b r)->mI a (List.range' p (c f)) f:=by
  intro f;induction f with
  |nil=>intro p _;trivial
  |cons r g t=>
   exact JC
 have:=key (a.drop d) d λy r n=>by grind
 grind
structure sD{P:aw}(q:al P)(B:Nat)(aP:Array ah)(F:bd){X:Type}(A:X->Nat->s)(bg:X->(Nat->Bool)->e Y)(e2:X->(Nat->Bool)->Prop)(idx:Nat->Option Nat)(u:Nat):Prop where
 cR:∀f r,aP[f]?=b r->∀ak∈r.after,eD ak=i->ak.on<f
 eL:∀f r N,aP[f]?=b r->r.dst=b N->idx N=b f/\N<B
 dp:∀N f,idx N=b f->∃r,aP[f]?=b r/\r.dst=b N
 S:∀κ (s:Nat->Bool) f r,e2 κ s->aP[f]?=b r->f<u->s f=m->(∀ak∈r.after,eD ak=i->s ak.on=i)->(∀y GJ,aP[y]?=b GJ->s y=i->∀ak∈GJ.after,eD ak=i->s ak.on=i)->d' q B aP.toList r (dr aP.toList F (A κ) f) (bg κ s) (λbe:{L4:X // (∀y,s y=i->A L4 y=A κ y)/\e2 L4 (du f s)}=>A be.1 f) (λbe=>bg be.1 (du f s))
 eG:∀(A:Nat->s) f r,aP[f]?=b r->∀w h d ai,bo h d ai (match idx w with|some y=>(if ∃ak∈r.after,eD ak=i/\ak.on=y then A y else .any)|none=>look F w)->bo h d ai (look (dr aP.toList F A f) w)
 fin:∀(A:Nat->s) w h d ai,bo h d ai (match idx w with|some y=>A y|none=>look F w)->bo h d ai (look (mZ aP.toList F A) w)
 gH:∀f r,aP[f]?=b r->u<=f->∀L:Array Bool,(∀f r,aP[f]?=b r->L.getD f m=i->∀ak∈r.after,eD ak=i->L.getD ak.on m=i)->(∀ak∈r.after,eD ak=i->L.getD ak.on m=i)->∀o,o<f->L.getD o m=i
 fN:u<=aP.size
 hS:∀κ (s:Nat->Bool),e2 κ s->(∀f,f<u->s f=i)->∀f,u<=f->f<aP.size->A κ f=.any
def FE(d:L.size=p)(a:f<p):L.getD f i=m↔¬L.getD f m=i:=J
theorem sD.seq(r:sD q B aP F A bg e2 idx u):∀(l a:Nat)(L:Array Bool)(y:Nat),L.size=aP.size->u<=a->a<=aP.size->aP.size-a<=l->(∀o,o<aP.size->(L.getD o m=i↔o<a)) ->
  Region.linearise.go .any aP l y L []=List.range' a (aP.size-a):=by
 intro l;induction l with
 |zero=>
  grind[Aw]
 |succ l V=>
  intro a L y I X Y C E;by_cases D:a=aP.size
  .grind [Gn]
  .rw[tK];have t:a<aP.size:=x;have S:∀d j,aP[d]?=b j->L.getD d m=i->∀h∈j.after,eD h=i->L.getD h.on m=i:=λd j e g h v w=>by have n:=(hM.1 e).1;have f:=(E d n).1 g;have K:=r.cR d j e h v w;grind
   have T:∀d,d∈aQ .any aP L->d=a:=λd g=>by
    obtain⟨j,e,s,U⟩:=nZ.1 g;have n:=(hM.1 e).1;have W:¬d<a:=λQ=>(FE I n).1 s ((E d n).2 Q);rcases dJ a d with f|f
    .have:=r.gH d j e x L S U a f;grind
    omega
   have R:a∈aQ .any aP L:=nZ.2 ⟨aP[a],gW t,(FE I t).2 (λM=>by grind),λh v w=>by
    have:=r.cR a _ (gW t) h v w
    grind⟩
   have O:0<c (aQ .any aP L):=List.length_pos_of_mem R;have z:=oA y O;rw[bu z];have p:=T _ (qI z);simp only[p];rw[V (a+1) _ _ J x x x (λo N=>by grind[lk])];rw[show aP.size-a=(aP.size-(a+1))+1 by omega,List.range'_succ]
def sD.eE(o:sD q B aP F A bg e2 idx u){aq:ae->aj->Prop}{w:az}{z:e Item}(ad:w.kind≠.early){dA:e Y}{cy:aj}(ab:∀d s g j,e2 d s->(∀f,f<u->s f=i)->bQ B (bg d s) g (mZ aP.toList F (A d)) j->aZ (bg d s) g->c6 dA cy (bg d s) g->cf q aq (G (w.i j (.inRegion aP (List.range' u (aP.size-u))::z)) aY) g):
  ∀(v:Nat) (d:X) (L:Array Bool),e2 d (je L)->L.size=aP.size->c (L.toList.filter (λw=>!w))<=v->(∀r,u<=r->¬L.getD r m=i) ->
   (∀f E,aP[f]?=b E->L.getD f m=i->∀N∈E.after,eD N=i->L.getD N.on m=i) ->
   ∀(g:aj) (j:Act),kW B (bg d (je L)) g (fW F (A d) idx L) j->aZ (bg d (je L)) g->c6 dA cy (bg d (je L)) g ->
   ∀n,cf q aq (G (w.i j (.inRegion aP (Region.linearise.go .any aP v n L [])::z)) aY) g:=by
 have fin:∀(d:X) (L:Array Bool) (g:aj) (j:Act) (v n:Nat),e2 d (je L)->L.size=aP.size->c (L.toList.filter (λw=>!w))<=v->(∀r,u<=r->¬L.getD r m=i)->(∀f,f<u->L.getD f m=i)->kW B (bg d (je L)) g (fW F (A d) idx L) j->aZ (bg d (je L)) g->c6 dA cy (bg d (je L)) g->cf q aq (G (w.i j (.inRegion aP (Region.linearise.go .any aP v n L [])::z)) aY) g:=by
  intro d L g j v n I D S R an M l t;have Z:=o.fN;rw[o.seq v u L n D (bE _) Z (by have aH:=Nl (p:=aP.size) (u:=u) D R;omega) (λr O=>⟨λao=>by grind,λao=>an r ao⟩)]
  exact ab d _ g j I an (M.eZ λn aC g ax H=>o.fin (A d) n aC g ax (by
   unfold fW at H;cases y:idx n with
   |none=>grind
   |some r=>
    simp only[y]at H⊢;obtain⟨E,h,_⟩:=o.dp _ _ y;rcases dJ r u with K|K
    .grind
    .rw[o.hS d _ I an r K (hM.1 h).1];trivial)) l t
 intro v;induction v with
 |zero=>
  intro d L I D S R W g j M l t n;have Z:=o.fN;grind[My]
 |succ v ah=>
  intro d L I D S R W g j M l t n;have Z:=o.fN;cases ai:(aQ .any aP L)[n % c (aQ .any aP L)]? with
  |none=>exact fin d L g j _ n I D S R (λf y=>Mx (MP:=o.cR) D (SU ai) f x) M l t
  |some f=>
   have y:=bZ ai;obtain⟨E,h,au,al⟩:=nZ.1 y;have aw:f<aP.size:=(hM.1 h).1;rcases dJ f u with C|C
   rotate_left
   .exact fin d L g j _ n I D S R (λr O=>o.gH f E h C L W al r x) M l t
   rw[tK,ai];have aA:¬L.getD f m=i:=J;have aK:c ((L.setIfInBounds f i).toList.filter (λw=>!w))<=v:=by
    have K:L.toList[f]?=b m:=by rw[CK,gW (by omega:f<L.size)];simpa[gJ,gW (by omega:f<L.size)]using aA
    grind[vE]
   have ay:∀T Q,aP[T]?=b Q->(L.setIfInBounds f i).getD T m=i->∀N∈Q.after,eD N=i->(L.setIfInBounds f i).getD N.on m=i:=uH;have a:bQ B (bg d (je L)) g (dr aP.toList F (A d) f) j:=RC (o.eG (A d) f E h) M al;have:=o.S d (je L) f E I h C (by unfold je;grind) al W g j a l w z aY aq f (Region.linearise.go .any aP v (n / c (aQ .any aP L)) (L.setIfInBounds f i) []) ad J;simp only[va]at this;refine this λaJ ax ak H V U=>?_;obtain⟨aF,aE,ar⟩:=aJ;have aB:=NF (L:=L) (f:=f) x;simp only at H V U;rw[<-aB]at H V U ar;exact ah aF _ ar J aK (λr O=>by grind[lk]) ay ak _ (WE (λaG af=>o.eL f E aG h af) o.dp h x (λT ag=>aE T ag) l.len U M H) V (t.trans U) _
def bX.reg(aC:P.follows Departure.mixedOrders=i)(y:Nat)(u:X->Nat->s)(M:X->(Nat->Bool)->e Y)(g:X->(Nat->Bool)->Prop)(ao:X)(aS:g ao λ_=>m)(aA:M ao (λ_=>m)=h)(al:ko all=i)(a4:nF all 0=i)(a5:nL B all=i)(a_:y<=c all)(N:∀f,y<=f->f<c all->∀L:Nat->Prop,(∀f,f<c all->L f->∀n∈c7 (all.getD f fx).after.toList,L n)->(∀n∈c7 (all.getD f fx).after.toList,L n)->∀K,K<f->L K)(z:∀p (s:Nat->Bool),g p s->(∀f,f<y->s f=i)->∀f,y<=f->f<c all->u p f=.any)(ad:∀p (s:Nat->Bool) f r,g p s->all[f]?=b r->f<y->s f=m->(∀n∈c7 r.after.toList,s n=i)->(∀j ab,all[j]?=b ab->s j=i->∀n∈c7 ab.after.toList,s n=i)->d' q B all r (dr all F (u p) f) (M p s) (λaK:{aO:X // (∀j,s j=i->u aO j=u p j)/\g aO (du f s)}=>u aK.1 f) (λaK=>M aK.1 (du f s))){aq:dn}(aB:∀p s,g p s->(∀f,f<y->s f=i)->e1 q B all (all.drop y) (aq .normal) (mZ all F (u p)) (M p s))(id:Nat):
  bX q B (.region id all.toArray i) aq F h:=by
 have O:∀f:Nat,all.toArray[f]?=all[f]?:=λf=>by simp
 let idx:Nat->Option Nat:=λw=>(aI (c all)).find? (λf=>decide ((all.getD f fx).dst=b w));have bc:∀w j,idx w=b j->∃r,all[j]?=b r/\r.dst=b w:=J;have a1:∀f r A,all[f]?=b r->r.dst=b A->idx A=b f:=by
  intro f r A cO v;have bL:f<c all:=(cD.1 cO).1;cases aG:idx A with
  |none=>
   have:=List.find?_eq_none.1 aG f J;grind
  |some j=>
   grind[AN]
 have bd:∀w,iR w all=i↔∃j,idx w=b j:=by grind[Ae,tz]
 have G:∀f r,all[f]?=b r->all.getD f fx=r:=λf r bf=>by grind
 have v:sD q B all.toArray F u M g idx y:=by
  refine⟨?_,?_,?_,?_,?_,?_,λf r cO T L aT aU K aE=>?_,by grind,λp s ax E f o t=>z p s ax E f o J⟩
  .intro f r cO n aj ah;rw[O]at cO;have:=C3 a4 f r cO n.on (kL.2 ⟨n,by grind,ah,rfl⟩);omega
  .intro f r A cO v;rw[O]at cO;exact⟨a1 f r A cO v,kE (EG a5 f r cO) A v⟩
  .grind
  .intro p s f r ax cO Z R aF aV;rw[O]at cO;exact ad p s f r ax cO Z R (λn aj=>by grind[kL]) λj r I aR n aj=>by grind[kL]
  .intro u f r cO w h d ai ak;rw[O]at cO;show bo h d ai (look (dr all F u f) w);unfold dr;rw[G f r cO];rcases tM (a2:=λj=>eW j (c7 r.after.toList)) (F:=lA all F) (w:=w) (l:=om all 0 u) (f:=0)with⟨j,bb,o,t,x⟩|x
   .rw[x];rw[BW]at o;cases I:all[j]? with
    |none=>grind
    |some aJ=>
     simp only[I,lY,eA,k4,cX]at o;rw[a1 j aJ w I o.1]at ak;simp only at ak;rw[bF]at ak
     .grind
     simp only[cX]at t;obtain⟨n,aP,aQ,y⟩:=kL.1 (tN t);grind
   rw[x,rC];split
   .trivial
   grind
  .intro u w h d ai ak;show bo h d ai (look (mZ all F u) w);unfold mZ;rcases tM (a2:=λ_=>i) (F:=lA all F) (w:=w) (l:=om all 0 u) (f:=0)with⟨j,bb,o,t,x⟩|x
   .rw[x];rw[BW]at o;grind
   rw[x,rC];split
   .trivial
   grind
  rw[O]at cO;refine N f T (cD.1 cO).1 (λK=>L.getD K m=i) (λba aY a' n aj=>?_) (λn aj=>?_) K aE
  .grind [kL]
  grind[kL]
 intro d aP a8 V aQ aH ay ar ah S;refine .next a λC ag=>?_;have ag:=q.bt ag;have af:=V.rely ag;have H:=a8.rely ag V;have D:cA h C h {C with a:={C.a with drawn:=C.a.drawn+1}}:=cA.same rfl rfl rfl rfl;have W:aZ h {C with a:={C.a with drawn:=C.a.drawn+1}}:=af.same rfl;have a3:=ag.aH.trans (D.tolU af);refine⟨_,{C with a:={C.a with drawn:=C.a.drawn+1}},#[],Bo,⟨⟨h,h,af,W,D⟩,.nil⟩,?_⟩;simp only[Region.schedule,aC,Bool.true_or,cN];have U:je (Array.replicate all.toArray.size m)=λ_=>m:=by funext f;simp[je,gJ,u_];split<;>simp
 refine v.eE ah (dA:=h) (cy:=d) (λp s aM au ax E az t ae=>?_) all.toArray.size ao _ J Q Q ?_ ?_ _ aP ?_ J J _
 .refine aB p s ax E aM au az t aQ aH ay ar _ ah ?_ λa6 a7 aN aw aL f3 x a9=>S .normal _ _ aN aw aL f3 x (ae.trans a9);grind[mI.il]
 .intro f _ bL;simp[gJ,u_]at bL;split at bL<;>simp at bL
 .exact Cc
 rw[U,aA];have an:=H.mono (D.tolU af) af.len;refine⟨an.size,an.defers,λw=>?_⟩;unfold fW;cases a0:idx w with
 |none=>exact an.aC w
 |some j=>
  simp only;rw[bp]
  .exact an.aC w
  exact uD
def d'.to{t:Type}{u:ι->s}{d:ι->e Y}{v:t->s}{p:t->e Y}(A:d' q B all r F h u d)(E:∀f,∃g,u f=v g/\d f=p g):d' q B all r F h v p:=by intro N x z n y g j w D a l o C;refine A N x z n y g j w D a l o λf R O J K M=>?_;obtain⟨Q,I,h2⟩:=E f;grind
def a0.tocm{f:Type}{A:s}{C:f->s}{z:f->e Y}(K:a0 q B all r F h A aO)(t:f)(g:A=C t)(j:aO=z t):d' q B all r F h C z:=by subst g j;exactλN E J o I u d D M a n p l=>K N E J o I u d D M a n p λO y v w x=>l t O y v w x
end
section
variable {q:al P}
theorem d'.aT{D:ι->s}{f:ι->e Y}(R:r.guard=k)(N:∀j t,aZ h j->(∀E,bo h j (t E) (bA F E))->∃(g:ι)(d:aj)(n:I),(W t r).run P j.a=.ok (.value n) d.a/\bo (f g) d n (D g)/\aZ (f g) d/\cA h j (f g) d/\cR j ((W t r).events P j.a #[])):d' q B all r F h D f:=by intro j J M l T V K S U z x y w;refine pP x y (jZ R) λQ p=>?_;have o:=l.rely p;obtain⟨g,d,n,u,v,C,A,O⟩:=N Q J.eval o (eO (M.rely p l));exact⟨_,d,n,u,.inl a,⟨⟨h,f g,o,C,A⟩,O⟩,w g n d v C (p.aH.trans (A.tolU o))⟩
def d'.dY{n:s}(v:a0 q B all r F h n aO):d' q B all r F h (λ_:Unit=>n) (λ_=>aO):=
 λy p u g t x d o w a f j e=>v y p u g t x d o w a f j λz l=>e () z l
def a0.aI{a:s}(e:aR P r (bA F) h a aO)(d:r.guard=k):a0 q B all r F h a aO:=.aT (λ_ _ _ _=>jZ d) e
def a0.eval{e:s}(aG:bT P ag)(a:a3 q CT)(f:gS ag CT bK all F h r=b (e,k,cl))(d:V cl):a0 q B all r F h e h:=h1 aG a f d
def a0.x{A:s}(aG:bT P ag:=by exact bv)(hX:a3 q CT:=by first|assumption|exact a3.nil)(n:gS ag CT [] all F h r=b (A,k,[]):=by rfl):a0 q B all r F h A h:=h1 aG hX n M
def qw(l:al P)(j:Nat)(a:e ah)(h:bd)(f:e Y)(g:Nat->s)(pre:Nat->Bool):e ah->Nat->Prop
 |[],_=>True
 |n::o,d=>(match pre d with|true=>a0 l j a n (dr a h g d) f (g d) f|false=>True)/\qw l j a h f g pre o (d+1)
def qx(l:al P)(j:Nat)(a:e ah)(h:bd)(f:e Y)(g:Nat->s)(n:Nat):e ah->Nat->Prop
 |[],_=>True
 |o::p,d=>(match aa d n with|true=>True|false=>a0 l j a o (dr a h g d) f (g d) f)/\qx l j a h f g n p (d+1)
theorem qw.get{l:Nat->s}{pre:Nat->Bool}:∀{n:e ah}{f:Nat},qw q B all F h l pre n f->∀(d:Nat)(g:ah),n[d]?=b g->pre (f+d)=i->a0 q B all g (dr all F l (f+d)) h (l (f+d)) h
 |[],_,_,d,g,j=>by grind
 |p::r,f,j,0,g,a=>λt=>by simp at a;subst a;have o:=j.1;grind
 |p::r,f,j,d+1,g,a=>λt=>by have:=qw.get j.2 d g J J;grind
theorem qx.get{l:Nat->s}{o:Nat}:∀{n:e ah}{f:Nat},qx q B all F h l o n f->∀(d:Nat)(g:ah),n[d]?=b g->f+d≠o->a0 q B all g (dr all F l (f+d)) h (l (f+d)) h
 |[],_,_,d,g,j=>by grind
 |r::u,f,j,0,g,a=>λt=>by simp at a;subst a;have p:=j.1;simp only[iK]at t;grind[Nat.eq_of_beq_eq_true]
 |r::u,f,j,d+1,g,a=>λt=>by have:=qx.get j.2 d g J x;grind
def qd(pre:Nat->Bool)(e:Nat->s)(f:ι->Nat->s)(d:ι)(a:Nat):s:=match pre a with|true=>e a|false=>f d a
def GL{n K:Nat}{pre:Nat->Bool}{r:Nat->s}{p:ι->Nat->s}{v:ι->e Y}{bg:ι->(Nat->Bool)->e Y}(R:pre n=m)(T:nH pre n all 0=i)(same:∀f d,pre d=i->p f d=r d)(C:∀d j,all[d]?=b j->pre d=i->a0 q B all j (dr all F r d) h (r d) h)(mv:∀f (s:Nat->Bool) d j,all[d]?=b j->d≠n->d<K->s d=m->(∀g x,all[g]?=b x->s g=i->∀w∈c7 x.after.toList,s w=i)->a0 q B all j (dr all F (p f) d) (bg f s) (p f d) (bg f (du d s)))(A:∀j,all[n]?=b j->d' q B all j (dr all F r n) h (λf=>p f n) v)(Q:∀f (s:Nat->Bool),(∀d,s d=i->pre d=i)->v f=bg f (du n s)):
  ∀(o:Option ι) (s:Nat->Bool) d j,(o.isSome=s n/\(o=k->∀d,s d=i->pre d=i))->all[d]?=b j->d<K->s d=m->(∀w∈c7 j.after.toList,s w=i)->(∀f x,all[f]?=b x->s f=i->∀w∈c7 x.after.toList,s w=i) ->
   d' q B all j (dr all F (o.elim r p) d) (o.elim h λf=>bg f s) (λJ:{D:Option ι // (∀f,s f=i->D.elim r p f=o.elim r p f)/\(D.isSome=du d s n/\(D=k->∀g,du d s g=i->pre g=i))}=>J.1.elim r p d) (λJ=>J.1.elim h λf=>bg f (du d s)):=by
 intro o s d j N u z y I t;have U:∀{g},du d s g=i->g=d∨s g=i:=λ{g} l=>by unfold du at l;grind[Nat.eq_of_beq_eq_true]
 have S:∀{g},g≠d->du d s g=s g:=λ{g} l=>by unfold du;grind[Nat.eq_of_beq_eq_true]
 by_cases M:d=n
 .subst M;cases o with
  |some f=>grind
  |none=>
   refine(A j u).to λf=>⟨⟨b f,λg l=>same f g (N.2 a g l),?_,λE=>by cases E⟩,a,Q f s (N.2 a)⟩
   unfold du;grind[Nat.beq_refl]
 cases o with
 |none=>
  have O:pre d=i:=by grind[D']
  exact(C d j u O).tocm ⟨k,λ_ _=>rfl,by grind,λ_ g l=>by grind⟩ a a
 |some f=>exact(mv f s d j u M z y t).tocm ⟨b f,λ_ _=>rfl,by grind,λE=>by cases E⟩ rfl rfl
def AL{g e:Nat}{pre:Nat->Bool}{d:Option ι}{s:Nat->Bool}(l:d.isSome=s g/\(d=k->∀a,s a=i->pre a=i))(h:g<e)(j:∀a,a<e->s a=i):∃f,d=b f:=by
 cases d with
 |some f=>grind
 |none=>grind
def g.eu(O:P.follows Departure.mixedOrders=i)(n:Nat)(pre:Nat->Bool)(t:Nat->s)(w:ι->Nat->s)(f:ι->e Y){id:Nat}(A:ko aP.toList=i)(C:nF aP.toList 0=i)(D:nL B aP.toList=i)(x:Nat.blt n (c aP.toList)=i)(E:pre n=m)(I:nH pre n aP.toList 0=i)(u:qw q B aP.toList F h t pre aP.toList 0)(mv:∀d,qx q B aP.toList F (f d) (qd pre t w d) n aP.toList 0)(Xh:d' q B aP.toList (aP.toList.getD n fx) (dr aP.toList F t n) h (λd=>qd pre t w d n) f)(N:∀d,g q B a7 ax .normal (mZ aP.toList F (qd pre t w d)) (f d)):g q B a7 (.code (.region id aP i)::ax) .normal F h:=by
 have x:=e' x;have:=bX.reg (q:=q) (B:=B) (F:=F) (h:=h) O (all:=aP.toList) (c aP.toList) (λl:Option ι=>l.elim t (qd pre t w)) (λl _=>l.elim h f) (λl s=>l.isSome=s n/\(l=k->∀j,s j=i->pre j=i)) k ⟨rfl,λ_ _ K=>by cases K⟩ a A C D (bE _)
  (λj o p=>absurd p (oC.2 o)) (λl s _ _ j o p=>absurd p (oC.2 o))
  (GL (bg:=λd _=>f d) E I (λd j z=>by simp only[qd,z]) (λj v r z=>by have:=u.get j v r J;grind) (λd s j v r y _ _ _=>by have:=(mv d).get j v r J;grind)
   (λv M=>by grind) (λ_ _ _=>rfl))
  (aq:=g q B a7 ax) (λl s Q R=>by obtain⟨d,rfl⟩:=AL Q x R;rw[u6];exact .nil (N d)) id
 exact uF
end
def vf(a:Nat->Bool):e Nat->Bool
 |[]=>m
 |d::f=>match a d with|true=>i|false=>vf a f
def CX{g:Nat->Bool}:∀{f:e Nat},vf g f=i->∃d∈f,g d=i
 |[],a=>by cases a
 |d::n,a=>by
  simp only[vf]at a;split at a
  .grind
  obtain⟨h,j,l⟩:=CX a;grind
def ua(a:e ah)(f:Nat):Nat->e Nat->Bool
 |0,d=>eW f d
 |h+1,d=>match eW f d with|true=>i|false=>vf (λg=>ua a f h (c7 (a.getD g fx).after.toList)) d
def wW{a:e ah}{p:Nat}{L:Nat->Prop}(n:∀o,o<c a->L o->∀d∈c7 (a.getD o fx).after.toList,L d):∀{r:Nat}{h:e Nat},ua a p r h=i->(∀d∈h,L d)->L p
 |0,h,f,j=>j p (tN f)
 |r+1,h,f,j=>by
  simp only[ua]at f;split at f
  .grind [tN]
  obtain⟨d,t,l⟩:=CX f;rcases dJ d (c a) with q|q
  .exact wW n l (n d q (j d t))
  have:a.getD d fx=fx:=J;rw[this]at l;exact wW n l (λs g=>by simp[fx,c7]at g)
def sZ(a:e ah)(d:Nat)(f:e Nat):Nat->Bool
 |0=>i
 |g+1=>match ua a g d f with|true=>sZ a d f g|false=>m
def yy{a:e ah}{j:Nat}{l:e Nat}:∀{f:Nat},sZ a j l f=i->∀d,d<f->ua a d j l=i
 |0,_,d,h=>by omega
 |f+1,g,d,h=>by
  simp only[sZ]at g;split at g
  .rename_i n;by_cases o:d=f
   .grind
   exact yy g d x
  grind
def th(a:e ah)(f:Nat):Nat->Nat->Bool
 |_,0=>i
 |d,g+1=>match sZ a f (c7 (a.getD d fx).after.toList) d with|true=>th a f (d+1) g|false=>m
def zr{a:e ah}{j:Nat}:∀{f h:Nat},th a j f h=i->∀d,f<=d->d<f+h->sZ a j (c7 (a.getD d fx).after.toList) d=i
 |f,0,_,d,l,n=>by omega
 |f,h+1,g,d,l,n=>by
  simp only[th]at g;split at g
  .rename_i u;by_cases o:d=f
   .grind
   exact zr g d x x
  grind
section
variable {q:al P}
def rF(d:Nat)(pre:Nat->Bool)(f:Nat->s)(g:ι->Nat->s)(e:ι)(a:Nat):s:=match Nat.blt a d with|true=>qd pre f g e a|false=>.any
def g.eV(ae:P.follows Departure.mixedOrders=i)(o f T:Nat)(pre:Nat->Bool)(p:Nat->s)(A:ι->Nat->s)(l:ι->e Y){id:Nat}(R:ko aP.toList=i)(S:nF aP.toList 0=i)(U:nL B aP.toList=i)(Z:pre o=m)(ad:nH pre o aP.toList 0=i)(Q:Nat.blt f (c aP.toList)=i)(z:Nat.blt o f=i)(X:∀d,pre d=i->d<f)(r:th aP.toList T f (c aP.toList-f)=i)(y:qw q B aP.toList F h p pre aP.toList 0)(mv:∀j,qx q B aP.toList F (l j) (rF f pre p A j) o (aP.toList.take f) 0)(O:d' q B aP.toList (aP.toList.getD o fx) (dr aP.toList F p o) h (λj=>rF f pre p A j o) l)(E:∀j,g q B a7 (.ar aP.toList (aP.toList.drop f)::ax) .normal (mZ aP.toList F (rF f pre p A j)) (l j)):g q B a7 (.code (.region id aP i)::ax) .normal F h:=by
 have Q:=e' Q;have z:=e' z;have:=bX.reg (q:=q) (B:=B) (F:=F) (h:=h) ae (all:=aP.toList) f (λn:Option ι=>n.elim p (rF f pre p A)) (λn _=>n.elim h l) (λn s=>n.isSome=s o/\(n=k->∀d,s d=i->pre d=i)) k ⟨rfl,λ_ _ V=>by cases V⟩ a R S U x
  (λd u C L af t E D=>wW af (yy (zr r d u x) E D) t)
  (λn s I K d u C=>by
   obtain⟨j,rfl⟩:=AL I z K;have:Nat.blt d f=m:=by
    cases ag:Nat.blt d f with
    |false=>rfl
    |true=>have:=e' ag;omega
   simp only[Option.elim,rF,this])
  (GL (bg:=λj _=>l j) Z ad (λj d t=>by have:Nat.blt d f=i:=yb (X d t);simp only[rF,this,qd,t])
   (λd w v t=>by have:=y.get d w v J;grind)
   (λj s d w v N M _ _=>by
    have ab:(aP.toList.take f)[d]?=b w:=J
    have:=(mv j).get d w ab J;grind)
   (λw W=>by grind) (λ_ _ _=>rfl))
  (aq:=g q B a7 ax) (λn s I K=>by obtain⟨j,rfl⟩:=AL I z K;exact E j) id
 exact uF
end
section
variable {q:al P}{A:Nat->s}{bg:(Nat->Bool)->e Y}
def l7:e ah->e (e Bool)->e (e Bool)
 |[],t=>t
 |r::a1,t=>e (kB t (c7 r.after.toList)) λu=>l7 a1 (t++[u])
 where e:e Bool->(e Bool->e (e Bool))->e (e Bool)
 |[],be=>be []
 |true::a1,be=>e a1 λa1=>be (i::a1)
 |false::a1,be=>e a1 λa1=>be (m::a1)
theorem v3:∀(f:e Bool)(a:e Bool->e (e Bool)),l7.e f a=a f
 |[],a=>rfl
 |true::d,a=>by simp only[l7.e];rw[v3 d]
 |false::d,a=>by simp only[l7.e];rw[v3 d]
def D_{a:e ah}{s:Nat->Bool}(r:∀(d:Nat)(f:ah),a[d]?=b f->s d=i->∀j∈c7 f.after.toList,s j=i):
  ∀(o:e ah) (g:e (e Bool)),(∀n,o[n]?=a[c g+n]?)->(∀(d:Nat) (h:e Bool),g[d]?=b h->∀f,a[d]?=b f->(∀j∈c7 f.after.toList,s j=i)->∀l,fS h l=i->s l=i) ->
   ∀(d:Nat) (h:e Bool),(l7 o g)[d]?=b h->∀f,a[d]?=b f->(∀j∈c7 f.after.toList,s j=i)->∀l,fS h l=i->s l=i
 |[],g,_,q=>q
 |f::o,g,p,q=>by
  simp only[l7];rw[v3];refine D_ r o _ (λn=>?_) ?_
  .have:=p (n+1);grind
  intro d h t;have u:=p 0;simp only[j6,iK]at u;rcases Nat.lt_trichotomy d (c g) with w|rfl|v
  .grind
  .rw[gK (bE _)]at t;grind[zf]
  grind
def d9(a:e ah)(f g:Nat):Bool:=match(l7 a [])[f]? with|some d=>fS d g|none=>m
def yx{s:Nat->Bool}(l:∀(a:Nat)(d:ah),all[a]?=b d->s a=i->∀g∈c7 d.after.toList,s g=i):∀(e:Nat) d,all[e]?=b d->(∀g∈c7 d.after.toList,s g=i)->∀a,d9 all e a=i->s a=i:=by
 intro e d h j a f;unfold d9 at f;split at f
 .rename_i u n;exact D_ l all [] Q Q e u n d h j a f
 grind
def CR{s:Nat->Bool}(o:∀(a:Nat)(n:ah),all[a]?=b n->s a=i->∀p∈c7 n.after.toList,s p=i)(r:s f=m):∀a,(a=f∨d9 all a f=i)->s a=m:=by
 intro a l;rcases l with rfl|l
 .exact r
 cases q:s a with
 |false=>rfl
 |true=>
  have d:∃g,all[a]?=b g:=by
   cases d:all[a]? with
   |some g=>grind
   |none=>
    exfalso;have t:c (l7 all [])=c all:=by
     have:∀(h:e ah) (j:e (e Bool)),c (l7 h j)=c j+c h:=by
      intro h;induction h with
      |nil=>intro j;simp[l7]
      |cons n h u=>intro j;simp only[l7];grind[v3]
     grind
    unfold d9 at l;grind
  obtain⟨g,d⟩:=d;have:=yx o a g d (o a g d q) f l;grind
def cW(n:al P)(l:Nat)(a:e ah)(j:bd)(h:Nat->s)(g:(Nat->Bool)->e Y)(d:Nat)(o:ah):Prop:=
 ∀s:Nat->Bool,(∀f,d9 a d f=i->s f=i)->(∀f,(f=d∨d9 a f d=i)->s f=m)->a0 n l a o (dr a j h d) (g s) (h d) (g (du d s))
def ss{P:aw}(h:al P)(f:Nat)(a:e ah)(d:bd)(l:Nat->s)(g:(Nat->Bool)->e Y):e ah->Nat->Prop
 |[],_=>True
 |n::o,j=>cW h f a d l g j n/\ss h f a d l g o (j+1)
theorem ss.get{a:e ah}:∀{l:e ah}{j:Nat},ss q B a F A bg l j->∀g f,l[g]?=b f->cW q B a F A bg (j+g) f
 |[],_,_,g,f,h=>by grind
 |n::o,j,h,0,f,d=>by simp at d;subst d;exact h.1
 |n::o,j,h,g+1,f,d=>by have:=ss.get h.2 g f J;grind
def g.dP{id:Nat}(A:P.follows Departure.mixedOrders=i)(p:Nat->s)(o:(Nat->Bool)->e Y)(C:o (λ_=>m)=h)(v:ko aP.toList=i)(w:nF aP.toList 0=i)(x:nL B aP.toList=i)(n:ss q B aP.toList F p o aP.toList 0)(D:∀s,(∀j,j<c aP.toList->s j=i)->g q B a7 ax .normal (mZ aP.toList F p) (o s)):g q B a7 (.code (.region id aP i)::ax) .normal F h:=by
 have:=bX.reg (q:=q) (B:=B) (F:=F) (h:=h) A (all:=aP.toList) (c aP.toList) (λ_:Unit=>p) (λ_=>o) (λ_ _=>True) () M C v w x (bE _)
  (λj d f=>absurd f (oC.2 d)) (λt s _ _ j d f=>absurd f (oC.2 d))
  (λt s j u _ l _ z y r=>by have d:=n.get j u l;rw[cX]at d;exact(d s (yx r j u l y) (CR r z)).tocm ⟨(),λ_ _=>rfl,M⟩ a a)
  (aq:=g q B a7 ax) (λt s _ E=>by rw[u6];exact .nil (D s E)) id
 exact uF
end
section
variable {q:al P}{A:Nat->s}{ak:Bool->Bool->Bool->Bool->e Y}{f1 f2 f3 f4:Nat}
abbrev ma(h:Bool->Bool->Bool->Bool->e Y)(a d f g:Nat):(Nat->Bool)->e Y:=λs=>h (s a) (s d) (s f) (s g)
theorem lJ{s:Nat->Bool}(a:aa y f=m):du f s y=s y:=by simp only[du,a]
theorem uv{s:Nat->Bool}:du f s f=i:=xN
def cW.jK(h:aa f1 f=m)(j:aa f2 f=m)(n:aa f3 f=m)(l:aa f4 f=m)(o:∀a d e g,a0 q B all r (dr all F A f) (ak a d e g) (A f) (ak a d e g)):cW q B all F A (ma ak f1 f2 f3 f4) f r:=by intro s _ _;grind[lJ]
def cW.ft(aG:bT P ag)(hX:a3 q CT)(cO:V cl)(n:∀t j u N,gS ag CT [] all (dr all F A f) (ak t j u N) r=b (A f,k,cl):=by intro t j u N;cases t<;>cases j<;>cases u<;>cases N<;>rfl)(b8:aa f1 f=m:=by rfl)(cY:aa f2 f=m:=by rfl)(X:aa f3 f=m:=by rfl)(ac:aa f4 f=m:=by rfl):cW q B all F A (ma ak f1 f2 f3 f4) f r:=.jK b8 cY X ac λt j u N=>a0.eval aG hX (n t j u N) cO
def cW.a'(aG:bT P ag:=by exact bv)(hX:a3 q CT:=by first|assumption|exact a3.nil)(n:∀t j u N,gS ag CT [] all (dr all F A f) (ak t j u N) r=b (A f,k,[]):=by intro t j u N;cases t<;>cases j<;>cases u<;>cases N<;>rfl)(b8:aa f1 f=m:=by rfl)(cY:aa f2 f=m:=by rfl)(X:aa f3 f=m:=by rfl)(ac:aa f4 f=m:=by rfl):cW q B all F A (ma ak f1 f2 f3 f4) f r:=.ft (cl:=[]) aG hX M n b8 cY X ac
def cW.eH(a:aa f2 f1=m)(g:aa f3 f1=m)(d:aa f4 f1=m)(f:d9 all f2 f1=i)(h:d9 all f3 f1=i)(e:d9 all f4 f1=i)(j:a0 q B all r (dr all F A f1) (ak m m m m) (A f1) (ak i m m m)):cW q B all F A (ma ak f1 f2 f3 f4) f1 r:=xK
def cW.fP(a:aa f1 f2=m)(g:aa f3 f2=m)(e:aa f4 f2=m)(d:d9 all f2 f1=i)(h:d9 all f3 f2=i)(f:d9 all f4 f2=i)(j:a0 q B all r (dr all F A f2) (ak i m m m) (A f2) (ak i i m m)):cW q B all F A (ma ak f1 f2 f3 f4) f2 r:=xK
def cW.fQ(a:aa f1 f3=m)(d:aa f2 f3=m)(g:aa f4 f3=m)(h:d9 all f3 f1=i)(f:d9 all f3 f2=i)(e:d9 all f4 f3=i)(j:a0 q B all r (dr all F A f3) (ak i i m m) (A f3) (ak i i i m)):cW q B all F A (ma ak f1 f2 f3 f4) f3 r:=xK
def cW.fR(a:aa f1 f4=m)(d:aa f2 f4=m)(g:aa f3 f4=m)(h:d9 all f4 f1=i)(f:d9 all f4 f2=i)(e:d9 all f4 f3=i)(j:a0 q B all r (dr all F A f4) (ak i i i m) (A f4) (ak i i i i)):cW q B all F A (ma ak f1 f2 f3 f4) f4 r:=xK
end
section
variable {q:al P}{A:Nat->s}{j:Bool->Bool->Bool->e Y}{f1 f2 f3:Nat}
abbrev oS(g:Bool->Bool->Bool->e Y)(a d f:Nat):(Nat->Bool)->e Y:=λs=>g (s a) (s d) (s f)
def oj{s:Nat->Bool}(a:aa y f=m):du f s y=s y:=by simp only[du,a]
def BR{s:Nat->Bool}:du f s f=i:=xN
def cW.fs(a:aa f1 f=m)(d:aa f2 f=m)(l:aa f3 f=m)(n:∀e g h,a0 q B all r (dr all F A f) (j e g h) (A f) (j e g h)):cW q B all F A (oS j f1 f2 f3) f r:=by intro s _ _;show a0 q B all r _ (j (s f1) (s f2) (s f3)) _ (j (du f s f1) (du f s f2) (du f s f3));rw[oj a,oj d,oj l];exact n _ _ _
def cW.ht(aG:bT P ag:=by exact bv)(hX:a3 q CT:=by first|assumption|exact a3.nil)(n:∀t u N,gS ag CT [] all (dr all F A f) (j t u N) r=b (A f,k,cl):=by intro t u N;cases t<;>cases u<;>cases N<;>rfl)(b8:aa f1 f=m:=by rfl)(cY:aa f2 f=m:=by rfl)(ak:aa f3 f=m:=by rfl)(cO:V cl:=by simp only[V,bl];omega):cW q B all F A (oS j f1 f2 f3) f r:=.fs b8 cY ak λt u N=>a0.eval aG hX (n t u N) cO
def cW.cx(aG:bT P ag:=by exact bv)(hX:a3 q CT:=by first|assumption|exact a3.nil)(n:∀t u N,gS ag CT [] all (dr all F A f) (j t u N) r=b (A f,k,[]):=by intro t u N;cases t<;>cases u<;>cases N<;>rfl)(b8:aa f1 f=m:=by rfl)(cY:aa f2 f=m:=by rfl)(ak:aa f3 f=m:=by rfl):cW q B all F A (oS j f1 f2 f3) f r:=.ht (cl:=[]) aG hX n b8 cY ak M
def cW.iv(e:aa f1 f=i)(t:aa f1 f=i)(d:aa f2 f=m)(l:aa f3 f=m)(p:∀g h,a0 q B all r (dr all F A f) (j m g h) (A f) (j i g h)):cW q B all F A (oS j f1 f2 f3) f r:=by intro s _ o;have n:=c1 e;subst n;show a0 q B all r _ (j (s f1) (s f2) (s f3)) _ (j (du f1 s f1) (du f1 s f2) (du f1 s f3));rw[BR,oj d,oj l,o f1 (.inl a)];exact p _ _
def cW.iw(e:aa f2 f=i)(d:aa f1 f=m)(n:aa f3 f=m)(o:d9 all f3 f=i)(t:aa f2 f=i)(p:∀g,a0 q B all r (dr all F A f) (j g m m) (A f) (j g i m)):cW q B all F A (oS j f1 f2 f3) f r:=by intro s _ h;have l:=c1 e;subst l;show a0 q B all r _ (j (s f1) (s f2) (s f3)) _ (j (du f2 s f1) (du f2 s f2) (du f2 s f3));rw[BR,oj d,oj n,h f2 (.inl a),h f3 (.inr o)];exact p _
def cW.ix(h:aa f3 f=i)(d:aa f1 f=m)(e:aa f2 f=m)(n:d9 all f f2=i)(t:aa f3 f=i)(p:∀l,a0 q B all r (dr all F A f) (j l i m) (A f) (j l i i)):cW q B all F A (oS j f1 f2 f3) f r:=by intro s aG g;have o:=c1 h;subst o;show a0 q B all r _ (j (s f1) (s f2) (s f3)) _ (j (du f3 s f1) (du f3 s f2) (du f3 s f3));rw[BR,oj d,oj e,g f3 (.inl a),aG f2 n];exact p _
end
def dY(d:Nat)(f:ab)(h:I):I->(Nat->Option Obj)->Prop:=λg a=>g=.pointer (b ⟨d,0,k⟩)/\a d=b (.cells #[h] f (0,0))/\∀e,e≠d->a e=k
section
variable {q:al P}
def a0.gb(aG:bT P ag){g e:Nat}(v:Nat){u:bh}(an:nj all F r=i)(t:r.op=.load g (.global e))(E:cH v h=b (.Q (dY e T ai)))(n:bY ag g=b u)(ae:dx ai=i)(H:gl u [.c (.val ai)]=b (.S (.c (.val ai)))):
  a0 q B all r F h (aL (.val ai)) h:=by
 intro d Q ah A j aw aY au ax K y I x;refine pP y I (jY an _ _ _ ah) λf X=>?_;have l:=A.rely X;have ao:=dL E;have C:v<c f.m:=by rw[l.len];grind
 have D:=bu C;generalize f.m[v]=L at D;obtain⟨af,⟨aj,w,aq⟩,ab,ad,ar⟩:=l.box v _ L ao D;have G:=ab e _ w;have Z:e∈L.V:=(ad e).2 J
 have U:Q.eval (.global e)=.pointer (b ⟨e,0,k⟩):=rfl;have s:bJ h f [ai] [.c (.val ai)]:=⟨Rd.val ae,M⟩;obtain⟨N,S,Y⟩:=qh (d:=f) (h:=h) (P:=P) (aG g u n) (j:=e) (off:=0) (z:=[ai]) (aY:=[.c (.val ai)]) (ak:=.S (.c (.val ai))) (λR ay o=>by
  simp only[aJ,G]
  grind) s H
 refine⟨.value N,f,N,by simp[W,t,U,Instr.loadAt,aU,S],.inl a,⟨⟨h,h,l,l,.refl _ _⟩,?_⟩,x N f Y l X.aH⟩;intro O V;have al:O∈(loadVar g ⟨e,0,k⟩).events P f.a #[]:=by
  have ak:W Q.eval r=(do pure (.value (<-loadVar g ⟨e,0,k⟩))):=by simp[W,t,U,Instr.loadAt,aU]
  rw[ak]at V;simpa[S]using V
 obtain⟨R,o,rfl⟩:=mY (aG g u n) (p:=1) (λR o=>⟨ai,by simp only[aJ,G];grind⟩) (by have:=pe H;grind) O al;exact nM (bZ D) Z
end
section
variable {q:al P}
def sv{P:aw}(l:al P)(j:Nat)(a:e ah)(h:bd)(d:e Y)(g:Nat->s):e s->e ah->Nat->Prop
 |_::p,o::n,f=>a0 l j a o (dr a h g f) d (g f) d/\sv l j a h d g p n (f+1)
 |[],_,_=>True
 |_::_,[],_=>False
theorem sv.get{a:e ah}{r:Nat->s}:∀{o:e s}{p:e ah}{n:Nat},sv q B a F h r o p n->∀d j,p[d]?=b j->d<c o->a0 q B a j (dr a F r (n+d)) h (r (n+d)) h
 |[],_,_,_,d,j,_,f=>absurd f (gY _)
 |_::o,[],_,l,d,j,_,f=>l.elim
 |t::o,u::p,n,l,0,j,g,_=>by cases g;exact l.1
 |t::o,u::p,n,l,d+1,j,g,f=>by have:=sv.get l.2 d j g J;grind
def g.fT(D:P.follows Departure.mixedOrders=i)(O:e s)(z:Nat){id:Nat}(w:ko aP.toList=i)(y:nF aP.toList 0=i)(A:nL B aP.toList=i)(n:aD (c O) (c aP.toList)=i)(j:th aP.toList z (c O) (c aP.toList-c O)=i)(l:sv q B aP.toList F h (λf=>O.getD f .any) O aP.toList 0)(u:g q B a7 (.ar aP.toList (aP.toList.drop (c O))::ax) .normal (mZ aP.toList F λf=>O.getD f .any) h):g q B a7 (.code (.region id aP i)::ax) .normal F h:=by
 have n:=e' n;have:=bX.reg (q:=q) (B:=B) (F:=F) (h:=h) D (all:=aP.toList) (c O) (λ_:Unit=>λf=>O.getD f .any) (λ_ _=>h) (λ_ _=>True) () M a w y A n
  (λf d o L E C u r=>wW E (yy (zr j f d x) u r) C)
  (λv s _ _ f d o=>by grind)
  (λv s f I _ t p _ _ _=>by have d:=l.get f I t p;rw[cX]at d;exact d.tocm ⟨(),λ_ _=>rfl,M⟩ a a)
  (aq:=g q B a7 ax) (λv s _ _=>u) id
 exact uF
end
section
variable {q:al P}
def ou{h:Type}(w:al P)(v:Nat)(o:dn)(u:e dz)(t:h->Prop)(s:h->bd)(q:h->e Y)(r:h->Nat)(x:Nat)(y:h):dn:=λp f j=>match p with
 |.normal=>∃l n,x<=n/\t l/\r l<r y/\hK f (s l)/\oZ n (s l)=i/\∃d a,j=d++a/\d.length=n/\(jj n d=i/\jq a=i)/\pq d (q l)
 |p=>g w v o u p f j
def g.g'{I:Type}(s:Nat)(S:I->Prop)(r:I->bd)(d:I->e Y)(af:I->Nat)(v:I){O:e Prop}(D:hF F (r v)=b aB)(az:V aB)(aL:ip h (d v)=b O)(aw:V O)(aH:c h=s)(G:S v)(round:∀v,S v->g q B (ou q B a7 ax S r d af s v) [.code u] .normal (r v) (d v)):g q B a7 (.code (.loop u)::ax) .normal F h:=by
 intro an t aA A j ae Z U l ad;have y:=jm aL aw;obtain⟨aS,R,_⟩:=y an A;refine vi (λak o au=>∃n,S n/\bQ B (d n) au (r n) o/\aZ (d n) au/\c6 h an (d n) au/\af n=ak) ?_ ?_ ⟨v,G,(aA.le (et D az)).V y A,aS,R.tolU A,a⟩
 .rintro p o au ⟨n,K,C,X,T,ab⟩;exact⟨d n,X,λaP f=>⟨n,K,C.rely f X,X.rely f,T.trans f.aH,ab⟩⟩
 rintro ak o au ⟨n,K,C,X,T,rfl⟩ aF;refine round n K au o C X j (.inLoop u::ae) Z U l ?_;intro ab H aC E W al N z w;cases ab with
 |normal=>
  obtain⟨ao,aM,aV,aq,aK,aJ,aU,M,ag,rfl,aj,⟨aT,ar⟩,aO⟩:=al;have ah:=z.drop J;obtain⟨aR,ai,aN⟩:=aO _ ah;have f3:=N.le aJ;have aE:eg E (E.cut M.length):=⟨rfl,λ_ _ _ aG=>aG,λ_ _ _=>rfl,z.mem,λj l=>l.imp id λ⟨L,ay,l⟩=>⟨L,gE ay,l⟩⟩
  refine .aK aE (aF W (E.cut M.length) (af ao) aK ⟨ao,aq,⟨f3.size,f3.defers.imp λ_ f=>(f.drop ar).mono ai.ext,λaQ=>aN _ _ ((f3.aC aQ).drop (tC J))⟩,aR,?_,a⟩);exact((T.trans w).drop x).trans (ai.tolU ah)
 |_=>exact jN.cons (λ_ _=>rfl) Q (ad _ _ _ _ _ al N z (T.trans w))
def g.e5{f:Type}{r:Nat}{p:f->Prop}{d:f->bd}{o:f->e Y}{u:f->Nat}{s:f}{y:e dz}(a:Nat)(l:f){n:e Prop}(E:r<=a)(x:hF F (d l)=b aB)(A:V aB)(v:oZ a (d l)=i)(t:tS a h=i)(j:ip (h.take a) (o l)=b n)(C:V n)(z:jj a (h.take a)=i)(D:p l)(w:u l<u s):
  g q B (ou q B a7 y p d o u r s) [] .normal F h:=
 ⟨l,a,E,D,w,et x A,v,h.take a,h.drop a,(sS a h).symm,by grind[Nat.le_of_ble_eq_true,wE],⟨z,(wE t).2⟩,jm j C⟩
def g.fh{t:Type}{r:Nat}{o:t->Prop}{j:t->bd}{l:t->e Y}{p:t->Nat}{s:t}{id:Nat}{x n y:e dz}(u:hU id x=k)(v:hU id n=b y)(z:g q B a7 y .normal F h):
  g q B (ou q B a7 n o j l p r s) (.code (.exit id)::x) .normal F h:=
 bX.mono (g.a_ (C:=λa d=>ou q B a7 n o j l p r s .normal a d) u v z) λf a d A=>by
  have key:∀(w:e dz) f,g q B (λf a d=>match f with
    |.normal=>ou q B a7 n o j l p r s .normal a d
    |f=>g q B a7 n f a d) w f a d->g q B (ou q B a7 n o j l p r s) w f a d:=by
   have f:(λf a d=>match f with
    |.normal=>ou q B a7 n o j l p r s .normal a d
    |f=>g q B a7 n f a d)=ou q B a7 n o j l p r s:=by funext f a d;cases f<;>rfl
   grind
  exact key _ _ A
end
def wi(f:bd)(a:e Nat):bd:=a.map λd=>(d,look f d)
section
variable {q:al P}
def g.db{n:Type}(r:Nat)(f:e Nat)(p:n->Prop)(d:n->bd)(l:n->e Y)(s:n->Nat)(a:n){o:e Prop}(j:hF F (wi F f++d a)=b aB)(v:V aB)(t:ip h (l a)=b o)(w:V o)(z:c h=r)(x:p a)(round:∀a,p a->g q B (kZ q B a7 ax p (λa=>wi F f++d a) l s r a) [.code u] .normal (wi F f++d a) (l a)):g q B a7 (.code (.loop u)::ax) .normal F h:=
 .aN r p (λa=>wi F f++d a) l s a j v t w z x round
end
section
variable {ag:e (Nat×bh)}
def aR.jW(aG:bT P ag){U K V X:Z}(af:r.op=.slice w U (b K) (b V) (b X)){G l:bh}(ai:bY ag w=b G)(aj:G.desc=.slice T)(al:bY ag T=b l){ew:Bool}{u q t:IntKind}{f e j:Int}(ar:∀ah v,bo h ah v (η U)->Rd ah.n v (.M ew l.size p es))(an:η K=aL (.int u f))(ao:η V=aL (.int q e))(ak:η X=aL (.int t j))(ab:0<=f)(aq:f<=e)(az:e<=j)(aA:j<=p):
  aR P r η h (aL (.M m l.size (e.toNat-f.toNat) (gR f.toNat es))) h:=by
 refine .aS λd I aC B=>?_;have S:=ar d _ (B U);have get:∀(n:Z) (R:IntKind) (v:Int),η n=aL (.int R v)->I n=.int R v:=λn R v s=>by have y:=B n;rw[s]at y;replace y:=b2 y;generalize I n=aF at y;cases y;rfl
 have C:=get K u f an;have D:=get V q e ao;have Y:=get X t j ak;obtain⟨ae,g,z,H,L,aJ,a,aB,aE⟩:=S.bx;rw[H]at S;have M:=(aG w G ai).run_underlying (K:=d.a);rw[aj]at M;have em:((j.toNat:Nat):Int)=j:=sM x;have ax:((e.toNat:Nat):Int)=e:=sM x;have ad:(aV i p g (b (.int u f)) (b (.int q e)) (b (.int t j))).run P d.a=.ok (f.toNat,e.toNat,j.toNat) d.a:=by simp[aV,run_sliceBound (P:=P) d.a t j g _ x x,run_sliceBound (P:=P) d.a q e j.toNat _ x x,run_sliceBound (P:=P) d.a u f e.toNat _ ab x]
 have au:(aV i p g (b (.int u f)) (b (.int q e)) (b (.int t j))).events P d.a #[]=#[]:=by simp[aV,run_sliceBound (P:=P) d.a t j g _ x x,run_sliceBound (P:=P) d.a q e j.toNat _ x x,lh (P:=P) d.a t j g _ x x,lh (P:=P) d.a q e j.toNat _ x x,lh (P:=P) d.a u f e.toNat _ ab x]
 refine⟨.slice (if j.toNat=f.toNat then ae else ae.map (·.add (f.toNat*l.size))) (e.toNat-f.toNat) (j.toNat-f.toNat),?_,?_,by simp[W,af,H,C,D,Y,Instr.sliceAt,M,Instr.slice,ad,au]⟩
 .simp[W,af,H,C,D,Y,Instr.sliceAt,M,Instr.slice,ad,(aG T l al).aU]
 cases S with
 |M aw F ay _ _ _ O N A E=>
  refine Rd.M aw (F+f.toNat*l.size) (λn e=>ay (f.toNat+n) e) x x Q (λn s=>O _ x) (λaH=>?_) (λn s e J o=>?_) (λn s e J o=>E _ x e J o)
  .rw[bp x,N x];simp[gg]
  have:=A (f.toNat+n) x e J o;grind
end
section
open Go.ChangeMaps (setBlock)
section
def P_(g:af)(x:ab)(f j h r:Nat)(seen:Array Nat)(d:Array aC)(e:Nat)(w:g.heap[f]?=b (.mapIter (b j) h seen r))(z:g.heap[j]?=b (.map d e))(F:∀p∈d.toList,p.born<h)(K:h<=r):
    ∀n∈(Instr.next (.pointer (b ⟨f,0,k⟩)) m x).events P g #[],n.sync=m/\(n.loc=.obj f∨n.loc=.obj j):=by
  have Q:(getObj f).run P g=.ok (.mapIter (b j) h seen r) g:=by simp only[getObj,Sem.run,w]
  have N:(getObj j).run P g=.ok (.map d e) g:=by simp only[getObj,Sem.run,z]
  have C:∀d,(getObj f).events P g d=d.push ⟨.obj f,m,m⟩:=λd=>by simp only[getObj,Sem.events,Sem.runT,w];rfl
  have O:∀d,(getObj j).events P g d=d.push ⟨.obj j,m,m⟩:=λd=>by simp only[getObj,Sem.events,Sem.runT,z];rfl
  have R:∀(w1:af) (u:Array Nat) (o:Array ay),w1.heap[f]?=b (.mapIter (b j) h seen r)->(setObj f (.mapIter (b j) h u e)).events P w1 o=o.push ⟨.obj f,i,m⟩:=λw1 u o l=>by simp only[setObj,Sem.events,Sem.runT,l];rfl
  have E:∀(w1:af) (t:Obj),w1.heap[f]?=b (.mapIter (b j) h seen r)->∃w2,(setObj f t).run P w1=.ok () w2:=λw1 t l=>⟨{w1 with heap:=w1.heap.setIfInBounds f t},by simp only[setObj,Sem.run,l]⟩
  simp only[Instr.next,aE,Q,N,C,O,aH,next_test_false seen d h r F K,jF,cr];generalize s:((if(Array.filter (λp=>decide (p.born<h)) (Array.filter (λn=>!seen.contains n.born) d)).isEmpty=i then #[k]else #[])++Array.map b (Array.filter (λp=>decide (p.born<h)) (Array.filter (λn=>!seen.contains n.born) d)++Array.filter (λp=>decide (p.born≥h)) (Array.filter (λn=>!seen.contains n.born) d)))=L;have D:∃v w1,(w1=g∨w1=g.drew)/\(choose (Question.mapNext L.size)).run P g=.ok v w1/\∀d,(choose (Question.mapNext L.size)).events P g d=d:=by
    by_cases A:L.size<=1
    · exact⟨0,g,Or.inl a,by simp[choose,Sem.run,Question.forced,A],λd=>by simp⟩
    · exact⟨_,g.drew,Or.inr a,by simp only[choose,Sem.run,Question.forced,bM,A,cr,Question.cut];rfl,λd=>by simp⟩
  obtain⟨v,w1,M,I,J⟩:=D;have y:w1.heap[f]?=b (.mapIter (b j) h seen r):=by rcases M with rfl|rfl<;>exact w
  simp only[I,J,aH];intro n q;have fin:n∈(#[⟨.obj f,m,m⟩,⟨.obj j,m,m⟩,⟨.obj f,i,m⟩]:Array ay):=by
    cases B:L[v]? with
    |none=>rw[B]at q;simp[stuck,Sem.events,Sem.runT]at q;rcases q with l|l<;>simp[l]
    |some t=>
      rw[B]at q;cases t with
      |none=>simp at q;rcases q with l|l<;>simp[l]
      |some p=>
        obtain⟨w2,S⟩:=E w1 (.mapIter (b j) h (seen.push p.born) e) y;simp[R w1 _ _ y]at q;rcases q with l|l|l<;>simp[l]
  simp at fin;rcases fin with rfl|rfl|rfl<;>simp
def OK(e:af)(g f j:Nat)(seen:Array Nat)(a:Array aC)(d:Nat)(h:aC)(l:e.heap[g]?=b (.mapIter (b f) j (seen.push h.born) d))(n:e.heap[f]?=b (.map a d))(t:h∈a.toList)(u:(a.toList.map (·.born)).Nodup):
    (Instr.entry (.pointer (b ⟨g,0,k⟩))).events P e #[]=#[⟨.obj g,m,m⟩,⟨.obj f,m,m⟩]:=by
  have o:a.find? (·.born==h.born)=b h:=by rw[<-Array.find?_toList];grind[find_born]
  have r:(getObj g).run P e=.ok (.mapIter (b f) j (seen.push h.born) d) e:=by simp only[getObj,Sem.run,l]
  have p:(getObj f).run P e=.ok (.map a d) e:=by simp only[getObj,Sem.run,n]
  have s:∀a,(getObj g).events P e a=a.push ⟨.obj g,m,m⟩:=λa=>by simp only[getObj,Sem.events,Sem.runT,l];rfl
  have q:∀a,(getObj f).events P e a=a.push ⟨.obj f,m,m⟩:=λa=>by simp only[getObj,Sem.events,Sem.runT,n];rfl
  simp only[Instr.entry,aE,r,p,s,q,aH,Array.back?_push,mN,jF,cr,o];rfl
def i5(h f:Nat)(d:Array Nat):I->(Nat->Option Obj)->Prop:=λj a=>∃e:Nat,j=.pointer (b ⟨e,0,k⟩)/\a=λg=>if g=e then b (.mapIter (b h) f d f)else k
def qy(H:I->(Nat->Option Obj)->Prop)(f:Nat)(d:Array aC)(e:Nat):Prop:=∀g a,H g a->a f=b (.map d e)
variable {q:al P}
def aZ.dR(bc:aZ h d)(ao:h[l]?=b (.Q H)){g:Nat}{a:Array aC}{j:Nat}(n:qy H g a j):d.a.heap[g]?=b (.map a j)/\∃L∈d.m,g∈L.V:=by have f:l<c d.m:=fk;obtain⟨o,e,p,q,r⟩:=bc.box l _ d.m[l] ao (bu f);have:=n _ _ e;grind
def aZ.g3(bc:aZ h d){p g:Nat}{e:Array Nat}(ao:h[l]?=b (.Q (i5 p g e))):∃a:Nat,d.m[l]?=b ⟨.pointer (b ⟨a,0,k⟩),((d.m[l]?).map (·.V)).getD []⟩/\d.a.heap[a]?=b (.mapIter (b p) g e g)/\∀L,d.m[l]?=b L->∀f,f∈L.V↔f=a:=by
  have n:l<c d.m:=fk;have o:=bu n;obtain⟨q,⟨a,r,s⟩,j,v,u⟩:=bc.box l _ d.m[l] ao o;refine⟨a,?_,j a _ J,λL t f=>?_⟩
  · rw[o];simp[<-r]
  grind
def g.range{o A E:Nat}{K M:ab}(n:r.op=.range o (.tmp A))(aq:r.dst=b E)(Z:r.guard=k)(U:eU B r.dst=i)(J:P.underlying o=b (.map K M)){a1:Nat}(T:∀d l,bQ B h d F l->aZ h d->l.eval (.tmp A)=.map (b a1)){ml:Nat}{H:I->(Nat->Option Obj)->Prop}{es:Array aC}{u:Nat}(ao:h[ml]?=b (.Q H))(G:qy H a1 es u)(ai:g q B a7 (.ar all bw::ax) .normal ((E,.k (.S (.aD (c h))))::F) (h++[.Q (i5 a1 u #[])])):g q B a7 (.ar all (r::bw)::ax) .normal F h:=by
  refine g.bO (ι:=Unit) (λ_=>.k (.S (.aD (c h)))) (λ_=>h++[.Q (i5 a1 u #[])]) Z U ?_ λ_=>by exact g3
  intro d l R f;have O:l.eval (.tmp A)=.map (b a1):=T d l R f;obtain⟨v,L,D,Y⟩:=f.dR ao G;have w:=run_range_map d.a o K M a1 es u J v;have y:(Instr.range o (.map (b a1))).events P d.a #[]=#[⟨.obj a1,m,m⟩]:=by
    have ag:∀es,(getObj a1).events P d.a es=es.push ⟨.obj a1,m,m⟩:=λes=>by simp only[getObj,Sem.events,Sem.runT,v];rfl
    have C:∀(r:Obj) (Q:af) es,(newObj r).events P Q es=es:=λr Q es=>by simp
    simp[Instr.range,run_underlying J,MapKept.run_getObj_map v,ag,C]
  have ah:∀e,d.a.heap.size<=e->∀r,d.n e r=k:=λe j r=>by
    cases N:d.n e r with
    |none=>rfl
    |some ad=>have:=f.block N;omega
  let a5:af:=d.a.alloc (.mapIter (b a1) u #[] u);have s:a5.heap.size=d.a.heap.size+1:=by show(d.a.heap.push _).size=_;simp
  have aj:a5.heap[d.a.heap.size]?=b (.mapIter (b a1) u #[] u):=kI _ _;obtain⟨S,ae⟩:=f.cF (b0:=d.n) (a5:=a5) x (λe j=>hY _ _ j) (λ_ _ _=>rfl) (λe j r ad N=>by grind) rfl rfl rfl;obtain⟨p,t⟩:=S.bL (bR:=.Q (i5 a1 u #[])) (L:=⟨.pointer (b ⟨d.a.heap.size,0,k⟩),[d.a.heap.size]⟩) ae rfl f
    ⟨λe=>if e=d.a.heap.size then b (.mapIter (b a1) u #[] u)else k,⟨_,rfl,rfl⟩,λe r j=>by grind,λe=>by by_cases X:e=d.a.heap.size<;>simp[X],λe j r=>by grind⟩
    (λe j=>by grind)
  refine⟨(),.value (.pointer (b ⟨d.a.heap.size,0,k⟩)),_,.pointer (b ⟨d.a.heap.size,0,k⟩),?_,.inl a,⟨λbR z=>?_,⟨.pointer (b ⟨d.a.heap.size,0,k⟩),[d.a.heap.size]⟩,?_,a,a⟩,p,t,?_⟩
  · simp only[W,n,O,cn,w,cM,dv];rfl
  · rw[gK (bE _)]at z;simp at z;subst z;rfl
  · show(d.m++_)[c h]?=_
    rw[<-f.len,gK (bE _)];simp
  · exact tp (cR.of_eq y (.S (jf D Y))) (by simp only[W,n,O])
def bQ.j8{e:Nat}(g:look F e=ce ai):∀d a,bQ B h d F a->aZ h d->a.eval (.tmp e)=ai:=λd a f _=>by have:=f.aC e;rw[g]at this;exact Rd.aM this
def bQ.jN{n:Nat}(u:look F n=.k (.S (.aD l)))(j:h[l]?=b (.Q H))(s:∀p a,H p a->p=ai):∀d e,bQ B h d F e->aZ h d->e.eval (.tmp n)=ai:=λd e q g=>by
  have o:=q.aC n;rw[u]at o;obtain⟨_,L,t,r,_⟩:=(show ck _ d _ (.aD l)from o)
  obtain⟨a,f,_⟩:=g.box l _ L j t;exact r.trans (s _ _ f)
inductive pu (es:Array aC) (eQ:Array Nat)
  |over (n:∀ak∈es.toList,ak.born∈eQ)
  |S (ak:aC) (n:ak∈es.toList) (FU:ak.born∉eQ)
def pu.cD{a:Array aC}{d:Array Nat}:pu a d->s
  |.over _=>.C [.S (.c (.bool m))]
  |.S e _ _=>.C [.S (.c (.bool i)),.S (.v e.key),.S (.v e.val)]
def pu.bs{a:Array aC}{eQ:Array Nat}:pu a eQ->Array Nat
  |.over _=>eQ
  |.S d _ _=>eQ.push d.born
def g.next{A Y:Nat}{T:ab}(cO:r.op=.next (.tmp A) m)(aG:r.type=T)(af:r.dst=b Y)(ah:r.guard=k)(O:eU B r.dst=i){ml im:Nat}(ak:look F A=.k (.S (.aD im))){a1 u:Nat}{eQ:Array Nat}(V:h[im]?=b (.Q (i5 a1 u eQ))){H:I->(Nat->Option Obj)->Prop}{es:Array aC}(ao:h[ml]?=b (.Q H))(aj:qy H a1 es u)(ad:MapKept.Stamped es u)(C:∀d∈es.toList,dx d.key=i/\dx d.val=i)(ar:∀p:pu es eQ,g q B a7 (.ar all bw::ax) .normal ((Y,p.cD)::F) (h.set im (.Q (i5 a1 u p.bs)))):g q B a7 (.ar all (r::bw)::ax) .normal F h:=by
  refine g.bO (ι:=pu es eQ) (λp=>p.cD) (λp=>h.set im (.Q (i5 a1 u p.bs))) ah O ?_ λp=>by rw[af];exact ar p
  intro f al ai o;obtain⟨e,j,v,X⟩:=o.g3 V;have y:al.eval (.tmp A)=.pointer (b ⟨e,0,k⟩):=by
    have:=ai.aC A;rw[ak]at this;obtain⟨_,L,U,y,_⟩:=(show ck _ f _ (.aD im)from this)
    rw[j]at U;cases U;exact y
  obtain⟨G,L,U,aF⟩:=o.dR ao aj;have az:=bZ j;have aA:=(X _ j e).2 a;have Z:cR f ((Instr.next (.pointer (b ⟨e,0,k⟩)) m r.type).events P f.a #[]):=by
    intro d z;obtain⟨aw,R|R⟩:=P_ f.a r.type e a1 u u eQ es u v G ad.1 (bE _) d z
    · obtain⟨s,wr,ag⟩:=d;grind[jf]
    · obtain⟨s,wr,ag⟩:=d;grind[jf]
  have au:h.set im (.Q (i5 a1 u eQ))=h:=kT;rcases run_next_at (P:=P) f.a r.type e a1 u u eQ es u v G ad.1 (bE _)with⟨Q,D⟩|⟨d,z,w1,ae,D⟩
  · have ay:∀d∈es.toList,d.born∈eQ:=by intro d z;have:=Array.eq_empty_of_size_eq_zero Q;unfold leftOf at this;grind[Array.filter_eq_empty_iff]
    refine⟨.over ay,.value (.tuple #[.bool m]),f,_,?_,.inl a,⟨[.bool m],a,Rd.bool,M⟩,?_,?_,?_⟩
    · simp only[W,cO,y,cn,D,cM,dv]
    · show aZ (h.set im (.Q (i5 a1 u eQ))) f
      grind
    · show cA h f (h.set im (.Q (i5 a1 u eQ))) f
      rw[au];exact .refl _ _
    · exact tp Z I7
  · have N:d∈es.toList/\d.born∉eQ:=by simp[leftOf]at z;grind
    have x:w1.heap=f.a.heap/\w1.os=f.a.os/\w1.tape=f.a.tape/\w1.output=f.a.output:=by rcases ae with rfl|rfl<;>exact⟨rfl,rfl,rfl,rfl⟩
    have aE:e<f.a.heap.size:=o.lt _ az e aA;have aB:e<w1.heap.size:=J;obtain⟨S,t2⟩:=o.br (l:=im) (fN:=i5 a1 u (eQ.push d.born)) (b7:=⟨.pointer (b ⟨e,0,k⟩),((f.m[im]?).map (·.V)).getD []⟩) (a5:=setBlock w1 e (.mapIter (b a1) u (eQ.push d.born) u)) V j rfl
      (by simp[setBlock,x.1]) (λn w an=>by
        have aq:e≠n:=J;simp only[setBlock]
        grind) (λn w=>.inl w)
      ⟨λn=>if n=e then b (.mapIter (b a1) u (eQ.push d.born) u)else k,⟨e,rfl,rfl⟩,λn r w=>by
        by_cases t:n=e
        · subst t
          simp only[cN]at w;cases w;simp only[setBlock];grind
        grind,λn=>by
        rw[X _ j n]
        by_cases t:n=e<;>simp[t]⟩ (by simp[setBlock,x.2.1]) (by simp[setBlock,x.2.2.1]) (by simp[setBlock,x.2.2.2])
    obtain⟨E,K⟩:=C d N.1;refine⟨.S d N.1 N.2,.value (.tuple #[.bool i,d.key,d.val]),_,_,?_,.inl a,⟨[.bool i,d.key,d.val],a,Rd.bool,Rd.val E,Rd.val K,M⟩,S,t2,?_⟩
    · simp only[W,cO,y,cn,D,cM,dv]
    · exact tp Z I7
def g.entry{t w:Nat}(l:r.op=.entry (.tmp t))(D:r.dst=b w)(R:r.guard=k)(z:eU B r.dst=i){ml im:Nat}(C:look F t=.k (.S (.aD im))){a1 u:Nat}{eQ:Array Nat}{ak:aC}(J:h[im]?=b (.Q (i5 a1 u (eQ.push ak.born)))){es:Array aC}(ao:h[ml]?=b (.Q H))(M:qy H a1 es u)(v:MapKept.Stamped es u)(x:ak∈es.toList){cd:s}(K:∀f:aj,bo h f (.tuple #[ak.key,ak.val]) cd)(S:g q B a7 (.ar all bw::ax) .normal ((w,cd)::F) h):g q B a7 (.ar all (r::bw)::ax) .normal F h:=by
  refine g.bO (ι:=Unit) (λ_=>cd) (λ_=>h) R z ?_ λ_=>by exact g3
  intro f A I e;obtain⟨n,d,j,O⟩:=e.g3 J;have o:A.eval (.tmp t)=.pointer (b ⟨n,0,k⟩):=by
    have:=I.aC t;rw[C]at this;obtain⟨_,L,p,o,_⟩:=(show ck _ f _ (.aD im)from this)
    rw[d]at p;cases p;exact o
  obtain⟨y,L,p,E⟩:=e.dR ao M;have N:=run_entry_at (P:=P) f.a n a1 u eQ es u ak j y x v.2.1;have Q:=OK (P:=P) f.a n a1 u eQ es u ak j y x v.2.1;refine⟨(),.value (.tuple #[ak.key,ak.val]),f,_,?_,.inl a,K f,e,.refl _ _,?_⟩
  · simp only[W,l,o,cn,N,cM,dv]
  · exact tp (cR.of_eq Q (.eB (jf (bZ d) ((O _ d n).2 a)) (jf p E))) (by simp only[W,l,o])
end
end
inductive dy where
 |nil (t:Option Addr)
 |row (j cap:Nat)
def cT(d:dy)(g:Nat):I:=match d with
 |.nil e=>.slice e 0 0
 |.row f a=>.slice (b ⟨f,0,k⟩) g a
def r1(a:dy)(d:Nat):dx (cT a d)=i:=by cases a<;>rfl
def gH(h:ab)(g:dy)(O:e I):I->(Nat->Option Obj)->Prop:=λn d=>n=.nilFunc/\(∀o∈O,dx o=i)/\match g with
 |.nil _=>O=[]/\d=λ_=>k
 |.row l a=>c O<=a/\a<=9223372036854775807/\∃f,c (O++f)=a/\d=λj=>if j=l then b (.cells (O++f).toArray h (0,0))else k
def ol(O:e I):Nat->e D:=λa=>[.val (O.getD a E)]
def gH.lookup{a:Nat}(f:gH T (.row j a) O ai eb):∃d,c (O++d)=a/\eb j=b (.cells (O++d).toArray T (0,0))/\∀e,(eb e).isSome=i↔e=j:=by obtain⟨_,_,_,_,d,g,h⟩:=f;grind
section
variable {q:al P}
def Rd.j7{cap:Nat}{iy:e I}(n:∀r∈O,dx r=i)(q:c (O++iy)=cap)(l:cap<=9223372036854775807)(u:∀h,bi j h=O[h]?):Rd bi (.slice (b ⟨j,0,k⟩) (c O) cap) (.M m 1 (c O) (ol O)):=by
 refine Rd.dy (bi:=bi) (o:=1) (p:=c O) (es:=ol O) (z:=O) (t:=b ⟨j,0,k⟩) (j:=j) (off:=0) (cap:=cap) (w:=m) ⟨by simp,λf _=>rfl,λf a g s d=>?_⟩ bN J l Q (λx y v=>by grind);cases g with
 |zero=>
  simp[ol]at d;subst d;refine⟨O[f],by grind,?_⟩;simp[a];exact .val (n _ (qI a))
 |succ g=>exact cF
def g.hV{A ak:Z}(n:h9 P r A ak T bz)(Y:bz.size=1){bB:Nat}(bg:r.dst=b bB)(bj:r.guard=k)(bb:eU B r.dst=i){b':dy}(aA:bA F A=ce (cT b' p))(aV:c O=p)(V:h[l]?=b (.Q (gH T b' O))){dh:Nat->e D}(bq:bA F ak=aL (.M gz 1 1 dh)){u:D}{dQ:I}(aR:dh 0=[u])(aT:∀bi v,Rd bi v u->v=dQ/\dx v=i)(al:(p+1)*bz.bytes<=140737488355328)(bJ:∀ae:dy,g q B a7 (.ar all bw::ax) .normal ((bB,ce (cT ae (p+1)))::F) (h.set l (.Q (gH T ae (O++[dQ]))))):g q B a7 (.ar all (r::bw)::ax) .normal F h:=by
 refine g.bO (ι:=dy) (λae=>ce (cT ae (p+1))) (λae=>h.set l (.Q (gH T ae (O++[dQ])))) bj bb ?_ λae=>by rw[bg];exact bJ ae
 intro d ao aU bc;subst aV;obtain⟨bE,t2,a3,bI,X,U,a8,a6,a_⟩:=n.op;have bk:l<c h:=(cD.1 V).1;have aw:l<c d.m:=fk;have N:=bu aw;generalize d.m[l]=L at N;obtain⟨bH,M,H,aQ,aO⟩:=bc.box l _ L V N;have ba:=bZ N;have an:=eO aU A;rw[aA]at an;have an:=Rd.aM an;have R:=eO aU ak;rw[bq]at R;have R:=b2 R;have bF:=M.2.1;have bC:∀{bi:Mem} {aH:I},Rd bi aH u->aH=dQ:=λbL=>(aT _ _ bL).1;have bK:∀j,d.a.heap.size<=j->∀r,d.n j r=k:=λj al r=>by
  cases bl:d.n j r with
  |none=>rfl
  |some v=>have:=bc.block bl;omega
 have mk:∀(o:Mem) (kv:Option Addr) (cap:Nat),cT b' (c O)=.slice kv (c O) cap->cap<c O+1->aZ (h.map λ_=>.t) {d with n:=o}->(∀f r v,d.n f r=b v->o f r=b v) ->
   Rd o (.slice kv (c O) cap) (.M m 1 (c O) (ol O))->(∀{y},cR {d with n:=o} y->cR d y) ->
   ∃a3 aC ab v,(W ao.eval r).run P d.a=.ok aC ab.a/\(aC=.value v∨(aC=.skip/\v=E))/\bo (h.set l (.Q (gH T a3 (O++[dQ])))) ab v (ce (cT a3 (c O+1)))/\aZ (h.set l (.Q (gH T a3 (O++[dQ])))) ab/\cA h d (h.set l (.Q (gH T a3 (O++[dQ])))) ab/\cR d ((W ao.eval r).events P d.a #[]):=by
  intro o kv cap aY w ah aP wb wa;have C:Rd ({d with n:=o}:aj).n (ao.eval ak) (.M gz bz.size 1 dh):=by rw[Y];exact R.mono aP
  have ag:Rd ({d with n:=o}:aj).n (.slice kv (c O) cap) (.M m bz.size (c O) (ol O)):=J;obtain⟨z,iy,br,t,S,f3,f4,f5⟩:=rX (P:=P) (d:={d with n:=o}) (ty:=r.type) U a8 a6 a_ n.elem ah ag C w al n.bytes;have f6:=rf (P:=P) (d:={d with n:=o}) (ty:=r.type) U a8 a6 a_ n.elem ah ag C w al n.bytes;rw[Y]at t f4;have a1:z=O++[dQ]:=by
   apply pD
   .simp[t.len]
   .intro aE bs rQ;have bn:aE<c O+1:=J
    obtain⟨aH,aG,ad⟩:=t.rd aE bn 0 (if aE<c O then .val (O.getD aE E)else u) (by
     by_cases aK:aE<c O
     .simp[b_,aK,ol]
     .have:aE=c O:=x
      subst this;simp[b_,aR])
    simp at aG;rw[bu bs]at aG;cases aG;by_cases aK:aE<c O
    .simp only[aK,cN]at ad;grind[Rd.aM]
    grind
  subst a1;have au:dx dQ=i:=by obtain⟨aH,aG,ad⟩:=t.rd (c O) x 0 u (by simp[b_,aR]);grind
  let a5:af:=d.a.drew.alloc (.cells (O++[dQ]++iy).toArray T);have bm:a5.heap[d.a.heap.size]?=b (.cells (O++[dQ]++iy).toArray T (0,0)):=kI d.a.drew _;have bD:a5.heap.size=d.a.heap.size+1:=Cj;obtain⟨aF,a'⟩:=bc.br (l:=l) (fN:=gH T (.row d.a.heap.size br) (O++[dQ])) (b7:=⟨L.v,[d.a.heap.size]⟩) (a5:=a5) V N rfl x
   (λj al _=>hY d.a.drew _ al) (λj al=>by grind)
   ⟨λf=>if f=d.a.heap.size then b (.cells (O++[dQ]++iy).toArray T (0,0))else k,⟨M.1,λA aA=>by grind,by grind,f3,iy,by grind,rfl⟩,λj r al=>by grind,λj=>by by_cases aK:j=d.a.heap.size<;>simp[aK]⟩ a a a
  refine⟨.row d.a.heap.size br,.value (.slice (b ⟨d.a.heap.size,0,k⟩) (c O+1) br),_,_,?_,.inl a,Rd.val a,aF,a',?_⟩
  .rw[jh X,an,aY];simp only[cn,dv];have aN:(Builtin.append_ #[bE,t2] r.type #[.slice kv (c O) cap,ao.eval ak]).run P d.a=_:=f5;rw[aN];rfl
  exact B5
 cases b' with
 |nil kv=>
  obtain⟨_,_,rfl,_⟩:=M;exact KZ
 |row j cap=>
  obtain⟨iy,a2,ar,bf⟩:=M.lookup;obtain⟨a0,_,w,bt,_⟩:=M;have s:j∈L.V:=(aQ j).2 J;have a9:=H j _ ar;have bx:=aO j s;have bd:j<d.a.heap.size:=bc.lt L ba j s;have aS:∀r v,O[r]?=b v->d.a.cell? ⟨j,r,k⟩=b v:=by intro r v X;simp only[aJ,a9];grind
  obtain⟨jb,jc⟩:=bc.en (j:=j) (z:=O) bx aS;have wa:∀{y:Array ay},cR {d with n:=λf r=>if f=j then O[r]? else d.n f r} y->cR d y:=λbh=>
   bh.fF (j:=j) ba s jc λf r v an=>by grind
  have wb:=Rd.j7 (bi:=λf r=>if f=j then O[r]? else d.n f r) (j:=j) (cap:=cap) (O:=O) (iy:=iy) bF a2 bt (λr=>by simp);by_cases G:c O+1<=cap
  .have C:Rd ({d with n:=λf r=>if f=j then O[r]? else d.n f r}:aj).n (ao.eval ak) (.M gz bz.size 1 dh):=by rw[Y];exact R.mono jc
   obtain⟨aB,t,S⟩:=w5 (P:=P) (d:={d with n:=λf r=>if f=j then O[r]? else d.n f r}) (ty:=r.type) (p:=c O) (j:=j) (cap:=cap) U a8 a6 a_ n.elem jb a9 J C G;have f6:=vO (P:=P) (d:=d) (ty:=r.type) (p:=c O) (j:=j) (cap:=cap) U a8 a6 a_ n.elem bc a9 J (A:=ao.eval ak) (gz:=gz) (dh:=dh) J G ba s (λr _=>bx r);rw[Y]at t S;have bG:aB=[dQ]:=by have ai:=t.len;simp at ai;obtain⟨aH,rfl⟩:=List.length_eq_one_iff.1 ai;obtain⟨bM,aG,ad⟩:=t.rd 0 x 0 u J;grind
   subst bG;have au:dx dQ=i:=by obtain⟨aH,aG,ad⟩:=t.rd 0 x 0 u J;grind
   have aq:((O++iy).take (c O*1)++[dQ]++(O++iy).drop (c O*1+[dQ].length))=O++[dQ]++iy.drop 1:=Q;rw[aq]at S;have bp:(d.a.setRow j (O++[dQ]++iy.drop 1).toArray).heap[j]?=b (.cells (O++[dQ]++iy.drop 1).toArray T (0,0)):=setRow_heap d.a j _ _ T _ a9;have az:∀f,f≠j->(d.a.setRow j (O++[dQ]++iy.drop 1).toArray).heap[f]?=d.a.heap[f]?:=λf a4=>setRow_other d.a j f _ a4;obtain⟨aF,a'⟩:=bc.br (l:=l) (fN:=gH T (.row j cap) (O++[dQ])) (b7:=L) (a5:=d.a.setRow j (O++[dQ]++iy.drop 1).toArray) V N rfl Q
    (λf a4 aV=>az f J) (λf a4=>.inl a4)
    ⟨λf=>if f=j then b (.cells (O++[dQ]++iy.drop 1).toArray T (0,0))else k,⟨a0,λA aA=>by grind,by grind,bt,iy.drop 1,by grind,rfl⟩,λf r a4=>by grind,λf=>by grind⟩ a a a
   refine⟨.row j cap,.value (.slice (b ⟨j,0,k⟩) (c O+1) cap),_,_,?_,.inl a,Rd.val a,aF,a',?_⟩
   .rw[jh X,an];simp only[cn,dv,cT];have aM:(Builtin.append_ #[bE,t2] r.type #[.slice (b ⟨j,0,k⟩) (c O) cap,ao.eval ak]).run P d.a=_:=S;rw[aM];rfl
   rw[jh X,an];exact il f6
  exact Jd
def bX.dQ{aq:dn}{c':ι->bd}{aO:ι->e Y}(E:∀g j,bQ B h g F j->aZ h g->∃(d:ι)(a:aj),a.a=g.a/\bQ B (aO d) a (c' d) j/\aZ (aO d) a/\cA h g (aO d) a)(J:∀d,bX q B u aq (c' d) (aO d)):bX q B u aq F h:=by intro g j M f A t p z N O;obtain⟨d,a,K,D,x,w⟩:=E g j M f;have y:=w.tolU f;refine .aK (.of f x K y) ?_;exact J d a j D x A t p z N λC I n v o Q r s l=>O C I n v o Q r s (y.trans l)
def g.jq(l:Nat)(s:ab){E:Nat}(D:look F l=aL (.M i E 0 es))(r:∀f:dy,g q B a7 (.code u::ax) .normal ((l,ce (cT f 0))::F) (h++[.Q (gH s f [])])):g q B a7 (.code u::ax) .normal F h:=by
 refine bX.dQ (λw J j d=>?_) r;have v:=j.aC l;rw[D]at v;obtain⟨e,t,z,C,_,_,n,_,_⟩:=(b2 v).bx;have n:=n a;subst n;obtain⟨A,o⟩:=d.bL (bR:=.Q (gH s (.nil e) [])) (L:=⟨.nilFunc,[]⟩) (.refl _ _) rfl d ⟨λ_=>k,⟨rfl,by simp,rfl,rfl⟩,by simp,by simp,by simp⟩ Q;refine⟨.nil e,{w with m:=w.m++[⟨.nilFunc,[]⟩]},rfl,⟨j.size,j.defers.imp λ_ p=>p.mono o.ext,λx=>?_⟩,A,o⟩;simp only[look];cases I:aa l x with
 |false=>exact(j.aC x).mono o.ext d.len
 |true=>
  have y:=c1 I;subst y;show Rd _ _ _;rw[C];exact si
def g.ie(w n:Nat){v:dy}(es:Nat->e D)(Z:look F w=ce (cT v p))(e4:h[n]?=b (.Q (gH T v O)))(U:c O=p)(an:∀ar x al,O[x]?=b al->∃u,es x=[u]/\Rd ar al u)(ab:g q B a7 (.code u::ax) .normal ((w,aL (.M m 1 p es))::F) (h.set n .t)):g q B a7 (.code u::ax) .normal F h:=by
 refine g.aK (λl t S bc=>?_) ab;subst U;have aN:n<c h:=(cD.1 e4).1;have aO:n<c l.m:=fk;have s:=bu aO;generalize l.m[n]=L at s;obtain⟨aA,aq,aB,H,au⟩:=bc.box n _ L e4 s;have ag:=S.aC w;rw[Z]at ag;have aH:=Rd.aM ag;have E:∃f:Mem,(∀j d M,l.n j d=b M->f j d=b M)/\(∀j,j∉L.V->∀d,f j d=l.n j d)/\(∀j d M,f j d=b M->l.a.cell? ⟨j,d,k⟩=b M)/\Rd f (cT v (c O)) (.M m 1 (c O) es):=by
  cases v with
  |nil ay=>
   obtain⟨_,_,rfl,_⟩:=aq;exact⟨l.n,λ_ _ _ X=>X,λ_ _ _=>rfl,bc.mem,Rd.cZ⟩
  |row j cap=>
   obtain⟨aQ,aj,C,aS⟩:=aq.lookup;obtain⟨ai,aR,aK,G,_⟩:=aq;have ao:j∈L.V:=(H j).2 J
   have aP:=aB j _ C;obtain⟨V,W⟩:=bc.en (j:=j) (z:=O) (au j ao) (λd M aF=>by
    simp only[aJ,aP]
    grind)
   refine⟨λK d=>if K=j then O[d]? else l.n K d,W,λK ah d=>bp J,V.mem,?_⟩;refine Rd.dy (o:=1) (p:=c O) (es:=es) (z:=O) (t:=b ⟨j,0,k⟩) (j:=j) (off:=0) (cap:=cap) (w:=m) ⟨by simp,λx A=>?_,λx A aT u aE=>?_⟩ bN aK G Q (λaU ad aG=>by grind)
   .obtain⟨u,y,_⟩:=an l.n x O[x] (bu A);grind
   obtain⟨az,y,aC⟩:=an (λK d=>if K=j then O[d]? else l.n K d) x O[x] (bu A);grind
 obtain⟨f,af,ae,aw,aM⟩:=E;have N:ey h l (h.set n .t) {l with n:=f}:=by
  refine⟨af,λr bR b7 kH iQ=>?_⟩;by_cases ak:n=r
  .exact Lp
  exact xC
 have I:cA h l (h.set n .t) {l with n:=f}:=by refine⟨bE _,λ_ _ _=>rfl,af,λj _ U d=>ae j (U L (bZ s)) d,λL X j R=>.inr ⟨L,X,R⟩,N.box,rfl,rfl,rfl,rfl⟩
 refine⟨{l with n:=f},rfl,⟨S.size,S.defers.imp λ_ y=>y.mono I.ext,λad=>?_⟩,⟨aw,by simp[bc.len],?_,bc.aL,bc.lt,bc.own⟩,I⟩
 .simp only[look];cases R:aa w ad with
  |false=>exact(S.aC ad).mono I.ext bc.len
  |true=>
   have ak:=c1 R;subst ak;show Rd _ _ _;grind
 intro r bR b7 kH iQ;by_cases ak:n=r
 .subst ak;rw[hN aN]at kH;cases kH;trivial
 rw[j7 ak]at kH;exact(bc.box r bR b7 kH iQ).bU N bc.len λj R=>⟨a,ae j λY=>ak (bc.aL n r L b7 s iQ j Y R)⟩
def g.h'(j:Nat){y:Y}(f:ι->Y)(t:h[j]?=b y)(s:∀l L,ek h l y L->∃n,(∀aO,ek aO l (f n) L)/\fL y L (f n) L)(D:∀n,g q B a7 (.code u::ax) .normal F (h.set j (f n))):g q B a7 (.code u::ax) .normal F h:=by
 refine bX.dQ (c':=λ_=>F) (aO:=λn=>h.set j (f n)) (λl M z bc=>?_) D;have O:j<c h:=(cD.1 t).1;have E:j<c l.m:=fk;have A:=bu E;generalize l.m[j]=L at A;obtain⟨n,I,Q⟩:=s l L (bc.box j _ L t A);have w:ey h l (h.set j (f n)) l:=by
  refine⟨λ_ _ _ s=>s,λo p r d e=>?_⟩;by_cases x:j=o
  .subst x;rw[t]at d;cases d;rw[A]at e;cases e;simp_all
  exact⟨p,r,by grind,e,.refl _ _⟩
 have v:cA h l (h.set j (f n)) l:=
  ⟨bE _,λ_ _ _=>rfl,λ_ _ _ s=>s,λ_ _ _ _=>rfl,λL s N J=>.inr ⟨L,s,J⟩,w.box,rfl,rfl,rfl,rfl⟩
 refine⟨n,l,a,⟨z.size,z.defers.imp λ_ C=>C.mono v.ext,λK=>(z.aC K).mono v.ext bc.len⟩,⟨bc.mem,by simp[bc.len],?_,bc.aL,bc.lt,bc.own⟩,v⟩;intro o p r d e;by_cases x:j=o
 .subst x;simp_all
 rw[j7 x]at d;exact(bc.box o p r d e).bU w bc.len λ_ _=>⟨a,λ_=>rfl⟩
def g.ez(n:Nat)(d:ι->I->(Nat->Option Obj)->Prop)(j:h[n]?=b (.Q H))(s:∀o a,H o a->∃f,d f o a)(l:∀f,g q B a7 (.code u::ax) .normal F (h.set n (.Q (d f)))):g q B a7 (.code u::ax) .normal F h:=
 g.h' n (λf=>.Q (d f)) j (λt L ⟨a,p,r⟩=>let ⟨f,e⟩:=s _ _ p;⟨f,λ_=>⟨a,e,r⟩,rfl⟩) l
end
def lm:D->Bool
 |.int _ _|.bool _|.R _|.bj|.bk|.cU|.val _=>i
 |_=>m
def mc:C->Bool
 |.c a=>lm a
 |.any=>i
 |_=>m
def v9:e C->Bool
 |[]=>i
 |a::d=>match mc a with|true=>v9 d|false=>m
def tx:E1->Bool
 |.S d=>mc d
 |.agg a=>v9 a
def v8:e E1->Bool
 |[]=>i
 |a::d=>match tx a with|true=>v8 d|false=>m
def v7:s->Bool
 |.k a=>tx a
 |.C O=>v8 O
 |.any=>i
section
theorem rq{a:Mem}{d:D}(e:lm d=i)(f:Rd bi ai d):Rd a ai d:=by
 cases f<;>first|(simp[lm]at e;done)|skip
 case int b8=>exact .int b8
 case bool=>exact .bool
 case R b8 cY=>exact .R b8 cY
 case bj=>exact .bj
 case bk=>exact .bk
 case cU=>exact .cU
 case val b8=>exact .val b8
def FG{a:C}(e:mc a=i)(f:ck h d ai a):ck aO au ai a:=by
 cases a with
 |c g=>exact rq e f
 |any=>exact f
 |_=>simp[mc]at e
def FI:∀{z:e I}{a:e C},v9 a=i->bJ h d z a->bJ aO au z a
 |[],[],_,_=>trivial
 |[],_::_,_,f=>f.elim
 |_::_,[],_,f=>f.elim
 |n::z,l::a,g,f=>by
  simp only[v9]at g;cases j:mc l with
  |false=>grind
  |true=>simp only[j]at g;exact⟨FG j f.1,FI g f.2⟩
def Ac{A:E1}(a:tx A=i)(e:eh h d ai A):eh aO au ai A:=by
 cases A with
 |S l=>exact FG a e
 |agg j=>obtain⟨z,f,g⟩:=e;exact⟨z,f,FI a g⟩
def FH:∀{z:e I}{a:e E1},v8 a=i->eJ h d z a->eJ aO au z a
 |[],[],_,_=>trivial
 |[],_::_,_,f=>f.elim
 |_::_,[],_,f=>f.elim
 |n::z,l::a,g,f=>by
  simp only[v8]at g;cases j:tx l with
  |false=>grind
  |true=>simp only[j]at g;exact⟨Ac j f.1,FH g f.2⟩
def RH{a:s}(e:v7 a=i)(f:bo h d ai a):bo aO au ai a:=by
 cases a with
 |k l=>exact Ac e f
 |C O=>obtain⟨z,g,j⟩:=f;exact⟨z,g,FH e j⟩
 |any=>trivial
end
def o4:e Y->Bool
 |[]=>i
 |.Q _::a=>o4 a
 |.t::a=>o4 a
 |_=>m
def GR:∀{g:e Y},o4 g=i->∀a∈g,(∃H,a=.Q H)∨a=.t
 |[],_,a,ao=>by grind
 |d::h,j,a,ao=>by
  have f:((∃H,d=.Q H)∨d=.t)/\o4 h=i:=by cases d<;>simp_all[o4]
  rcases ef.1 ao with rfl|ao
  .exact f.1
  exact GR f.2 a ao
def sz(l:e Y)(n:Nat)(q:I)(o p:Nat)(j:Nat->e D):Prop:=
 ∀g,aZ l g->∃(L:Loc) (f:Mem),g.m[n]?=b L/\(∀a d h,g.n a d=b h->f a d=b h)/\(∀a,a∉L.V->∀d,f a d=g.n a d)/\(∀a d h,f a d=b h->g.a.cell? ⟨a,d,k⟩=b h) /\
  (∀a∈L.V,∀d,g.n a d=k)/\Rd f q (.M m o p j)
section
variable {q:al P}
def bW.gn{g:e Y}{l:aj}{n:s}:∀{z:e I}{a:e s}{U:Nat}{f:I},bW g l z a->z[U]?=b f->bo g l f n->bW g l z (a.set U n)
 |[],[],_,_,_,d,_=>by grind
 |[],_::_,_,_,d,_,_=>d.elim
 |_::_,[],_,_,d,_,_=>d.elim
 |p::z,o::a,0,f,d,j,h=>by simp at j;subst j;exact⟨h,d.2⟩
 |p::z,o::a,U+1,f,d,j,h=>⟨d.1,bW.gn (U:=U) d.2 J h⟩
def lP(n:e Y)(o h:e s):Prop:=
 ∀g z,aZ n g->bW n g z o->∃(l:Nat->Prop) (f:Mem),(∀a,l a->∃L∈g.m,a∈L.V)/\(∀a d j,g.n a d=b j->f a d=b j)/\(∀a,¬l a->∀d,f a d=g.n a d) /\
  (∀a d j,f a d=b j->g.a.cell? ⟨a,d,k⟩=b j)/\(∀a,l a->∀d,g.n a d=k)/\bW n {g with n:=f} z h
def lP.refl(h:e Y)(a:e s):lP h a a:=λj z f g=>⟨λ_=>False,j.n,λ_ d=>d.elim,λ_ _ _ d=>d,λ_ _ _=>rfl,f.mem,λ_ d=>d.elim,g⟩
def lP.step{q g:e s}(R:lP h q g)(o X:Nat){u:I}{E:Nat}(U:g[o]?=b (ce u))(A:sz h X u E p es):lP h q (g.set o (aL (.M m E p es))):=by
 classical
 intro t z l B;obtain⟨w,f,af,V,Z,G,C,K⟩:=R t z l B;obtain⟨L,n,M,H,D,Y,ab,W⟩:=A t l;have r:∀a d j,f a d=b j->(f a d).or (n a d)=b j:=λa d j v=>by grind
 have y:∀a d j,n a d=b j->(f a d).or (n a d)=b j:=λa d j v=>by
  cases N:f a d with
  |none=>grind
  |some F=>
   grind
 refine⟨λa=>w a∨a∈L.V,λa d=>(f a d).or (n a d),J,λa d j v=>r a d j (V a d j v),J,?_,?_,?_⟩
 .intro a d j v;cases N:f a d with
  |none=>grind
  |some F=>grind
 .grind
 have x:ey h {t with n:=f} h {t with n:=λa d=>(f a d).or (n a d)}:=⟨r,λad w L ao M=>⟨w,L,ao,M,.refl _ _⟩⟩
 have T:=K.mono x l.len;obtain⟨ae,Q⟩:=bW.get K;have O:o<c z:=J;have S:z[o]?=b u:=by have:=Q o;rw[U,bu O]at this;have:=Rd.aM (show Rd f z[o] (.val u)from this);grind
 exact T.gn S (show bo h {t with n:=λa d=>(f a d).or (n a d)} u (aL (.M m E p es))from Rd.mono y W)
end
def cg(l:ab)(j:Nat)(g:dy)(h:Nat)(O:e I):I->(Nat->Option Obj)->Prop:=λp d=>p=.nilFunc/\(∀q∈O,dx q=i)/\c O=h*j/\match g with
 |.nil _=>h=0/\d=λ_=>k
 |.row o a=>h<=a/\a<=9223372036854775807/\∃f,c (O++f)=a*j/\d=λn=>if n=o then b (.cells (O++f).toArray l (0,0))else k
def kR(a:Nat)(O:e I):Nat->e D:=λd=>((O.drop (d*a)).take a).map .val
def IU{o:Nat}(a:c O=p*o)(bL:f<p):c (kR o O f)=o:=by have:f*o+o<=p*o:=Cl;simp[kR,a];omega
def IT{d:Nat}{a:D}(g:(kR d O f)[y]?=b a):∃e,O[f*d+y]?=b e/\a=.val e:=by simp only[kR,lW,kw,ow]at g;grind
def cg.lookup{f a:Nat}(g:cg T f (.row j a) p O ai eb):∃d,c (O++d)=a*f/\eb j=b (.cells (O++d).toArray T (0,0))/\∀e,(eb e).isSome=i↔e=j:=by obtain⟨_,_,_,_,_,d,h,l⟩:=g;grind
def Rd.j9{cap o:Nat}(n:∀s∈O,dx s=i)(e:c O=p*o)(q:p<=cap)(l:cap<=9223372036854775807)(x:∀h,bi j h=O[h]?):Rd bi (.slice (b ⟨j,0,k⟩) p cap) (.M m o p (kR o O)):=by refine Rd.dy (bi:=bi) (o:=o) (p:=p) (es:=kR o O) (z:=O) (t:=b ⟨j,0,k⟩) (j:=j) (off:=0) (cap:=cap) (w:=m) ⟨e,λr d=>IU e d,λr d y u f=>?_⟩ bN q l Q (λA g v=>by grind);obtain⟨g,a,rfl⟩:=IT f;exact⟨g,a,.val (n g (bZ a))⟩
section
variable {q:al P}
def cg.eP{o g:Nat}{d:dy}(l:h[g]?=b (.Q (cg T o d p O)))(es:Nat->e D)(F:∀a,a<p->c (es a)=o/\∀N f n I,(es a)[f]?=b n->O[a*o+f]?=b I->Rd N I n):sz h g (cT d p) o p es:=by
 intro r bc;have af:g<c h:=(cD.1 l).1;have Y:g<c r.m:=fk;have u:=bu Y;generalize r.m[g]=L at u;obtain⟨S,H,U,K,y⟩:=bc.box g _ L l u;cases d with
 |nil R=>
  obtain⟨_,_,_,rfl,_⟩:=H;exact⟨L,r.n,u,λ_ _ _ V=>V,λ_ _ _=>rfl,bc.mem,y,Rd.cZ⟩
 |row j cap=>
  obtain⟨ad,ah,ab,ae⟩:=H.lookup;obtain⟨ai,G,B,X,C,_⟩:=H;have M:j∈L.V:=(K j).2 J
  have Z:=U j _ ab;obtain⟨v,x⟩:=bc.en (j:=j) (z:=O) (y j M) (λq an W=>by
   simp only[aJ,Z]
   grind)
  refine⟨L,λs q=>if s=j then O[q]? else r.n s q,u,x,λs aq q=>bp J,v.mem,y,?_⟩;refine Rd.dy (o:=o) (p:=p) (es:=es) (z:=O) (t:=b ⟨j,0,k⟩) (j:=j) (off:=0) (cap:=cap) (w:=m) ⟨B,λa bL=>(F a bL).1,λa bL f n A=>?_⟩ bN X C Q (λak al aj=>by grind);have ag:f<o:=J;have E:a*o+f<c O:=by rw[B];have:a*o+o<=p*o:=Cl;omega
  exact⟨O[a*o+f],bu E,(F a bL).2 _ f n _ A (bu E)⟩
def d_.e7{o:Nat}{A aB:Z}(n:h9 P r A aB T bz)(ag:bz.size=o){b':dy}(Y:bA F A=ce (cT b' p))(ad:h[l]?=b (.Q (cg T o b' p O))){dh:Nat->e D}(bm:bA F aB=aL (.M gz o 1 dh)){dQ:e I}(bH:c dQ=o)(bB:∀(bi:Mem) (q:I) (w:Nat) (bs:D),(dh 0)[w]?=b bs->Rd bi q bs->dQ[w]?=b q/\dx q=i)(al:(p+1)*bz.bytes<=140737488355328):
  d_ P B r F h (λa':dy=>ce (cT a' (p+1))) λa'=>h.set l (.Q (cg T o a' (p+1) (O++dQ))):=by
 intro d aC aM bc;obtain⟨bT,t2,aY,bP,ae,y,a4,a3,a7⟩:=n.op;have bg:l<c h:=(cD.1 ad).1;have au:l<c d.m:=fk;have S:=bu au;generalize d.m[l]=L at S;obtain⟨bN,aA,H,aH,aE⟩:=bc.box l _ L ad S;have a_:=bZ S;have an:=eO aM A;rw[Y]at an;have an:=Rd.aM an;have U:=eO aM aB;rw[bm]at U;have U:=b2 U;have aq:=aA.2.1;have G:=aA.2.2.1;have bQ:∀j,d.a.heap.size<=j->∀r,d.n j r=k:=λj al r=>by
  cases bh:d.n j r with
  |none=>rfl
  |some q=>have:=bc.block bh;omega
 have mk:∀(u:Mem) (kv:Option Addr) (cap:Nat),cT b' p=.slice kv p cap->cap<p+1->aZ (h.map λ_=>.t) {d with n:=u}->(∀g r q,d.n g r=b q->u g r=b q) ->
   Rd u (.slice kv p cap) (.M m o p (kR o O))->(∀{R},cR {d with n:=u} R->cR d R) ->
   ∃aY ax ah q,(W aC.eval r).run P d.a=.ok ax ah.a/\(ax=.value q∨(ax=.skip/\q=E))/\bo (h.set l (.Q (cg T o aY (p+1) (O++dQ)))) ah q (ce (cT aY (p+1)))/\aZ (h.set l (.Q (cg T o aY (p+1) (O++dQ)))) ah/\cA h d (h.set l (.Q (cg T o aY (p+1) (O++dQ)))) ah/\cR d ((W aC.eval r).events P d.a #[]):=by
  intro u kv cap aQ v ak aF wb wa;have C:Rd ({d with n:=u}:aj).n (aC.eval aB) (.M gz bz.size 1 dh):=by rw[ag];exact U.mono aF
  have ai:Rd ({d with n:=u}:aj).n (.slice kv p cap) (.M m bz.size p (kR o O)):=J;obtain⟨z,f,bp,t,ab,f3,f4,f5⟩:=rX (P:=P) (d:={d with n:=u}) (ty:=r.type) y a4 a3 a7 n.elem ak ai C v al n.bytes;have f6:=rf (P:=P) (d:={d with n:=u}) (ty:=r.type) y a4 a3 a7 n.elem ak ai C v al n.bytes;rw[ag]at t f4;have bF:c z=(p+1)*o:=t.len;have bx:c O+o=(p+1)*o:=J;have aO:0<o:=by have:=n.size;omega
  have aG:∀w,w<o->∃q,z[p*o+w]?=b q/\dQ[w]?=b q/\dx q=i:=λw bf=>by
   have aT:=t.bo p x;have aV:b_ p (kR o O) dh p=dh 0:=by simp[b_]
   rw[aV]at aT;obtain⟨q,a1,a2⟩:=t.rd p x w ((dh 0)[w]'x) J;grind
  have aS:z=O++dQ:=by
   apply sT;intro M;by_cases bt:M<c O
   .have y:M / o<p:=qD J;have bD:M / o*o+M % o=M:=sL M o;have aU:=IU (o:=o) G y;have bw:b_ p (kR o O) dh (M / o)=kR o O (M / o):=by simp[b_,y]
    have aN:M % o<c (kR o O (M / o)):=by rw[aU];exact oA _ aO
    obtain⟨q,a1,a2⟩:=t.rd (M / o) x (M % o) ((kR o O (M / o))[M % o]) J;obtain⟨bU,bR,bS⟩:=IT (bu aN);grind[Rd.aM]
   grind
  subst aS;have ar:∀A∈dQ,dx A=i:=λA Y=>by grind[List.getElem_of_mem]
  let a5:af:=d.a.drew.alloc (.cells (O++dQ++f).toArray T);have bj:a5.heap[d.a.heap.size]?=b (.cells (O++dQ++f).toArray T (0,0)):=kI d.a.drew _;have bE:a5.heap.size=d.a.heap.size+1:=Cj;obtain⟨az,a8⟩:=bc.br (l:=l) (fN:=cg T o (.row d.a.heap.size bp) (p+1) (O++dQ)) (b7:=⟨L.v,[d.a.heap.size]⟩) (a5:=a5) ad S rfl x
   (λj al _=>hY d.a.drew _ al) (λj al=>by grind)
   ⟨λg=>if g=d.a.heap.size then b (.cells (O++dQ++f).toArray T (0,0))else k,⟨aA.1,λA Y=>by grind,by grind,ab,f3,f,by omega,rfl⟩,λj r al=>by grind,λj=>by by_cases bt:j=d.a.heap.size<;>simp[bt]⟩ a a a
  refine⟨.row d.a.heap.size bp,.value (.slice (b ⟨d.a.heap.size,0,k⟩) (p+1) bp),_,_,?_,.inl a,Rd.val a,az,a8,?_⟩
  .rw[jh ae,an,aQ];simp only[cn,dv];exact g3
  exact B5
 cases b' with
 |nil kv=>
  obtain⟨_,_,_,rfl,_⟩:=aA;exact KZ
 |row j cap=>
  obtain⟨f,bJ,ao,bb⟩:=aA.lookup;obtain⟨aR,_,_,v,bq,_⟩:=aA;have s:j∈L.V:=(aH j).2 J;have a6:=H j _ ao;have br:=aE j s;have ba:j<d.a.heap.size:=bc.lt L a_ j s;have aK:∀r q,O[r]?=b q->d.a.cell? ⟨j,r,k⟩=b q:=by intro r q ae;simp only[aJ,a6];grind
  obtain⟨jb,jc⟩:=bc.en (j:=j) (z:=O) br aK;have wa:∀{R:Array ay},cR {d with n:=λg r=>if g=j then O[r]? else d.n g r} R->cR d R:=λbd=>
   bd.fF (j:=j) a_ s jc λg r q an=>by grind
  have wb:=Rd.j9 (bi:=λg r=>if g=j then O[r]? else d.n g r) (j:=j) (cap:=cap) (O:=O) aq G v bq (λr=>by simp);by_cases X:p+1<=cap
  .have C:Rd ({d with n:=λg r=>if g=j then O[r]? else d.n g r}:aj).n (aC.eval aB) (.M gz bz.size 1 dh):=by rw[ag];exact U.mono jc
   obtain⟨N,t,ab⟩:=w5 (P:=P) (d:={d with n:=λg r=>if g=j then O[r]? else d.n g r}) (ty:=r.type) (p:=p) (j:=j) (cap:=cap) y a4 a3 a7 n.elem jb a6 J C X;have f6:=vO (P:=P) (d:=d) (ty:=r.type) (p:=p) (j:=j) (cap:=cap) y a4 a3 a7 n.elem bc a6 J (A:=aC.eval aB) (gz:=gz) (dh:=dh) J X a_ s (λr _=>br r);rw[ag]at t ab;have aP:c N=o:=by have:=t.len;omega
   have bG:=t.bo 0 x;have aG:∀w,w<o->∃q,N[w]?=b q/\dQ[w]?=b q/\dx q=i:=λw bf=>by obtain⟨q,a1,a2⟩:=t.rd 0 x w ((dh 0)[w]'x) (bu x);grind
   have bL:N=dQ:=kT;subst bL;have ar:∀A∈N,dx A=i:=λA Y=>by grind[List.getElem_of_mem]
   have bC:p*o+o<=cap*o:=I3;have bI:o<=c f:=J;have bK:((O++f).take (p*o)++N++(O++f).drop (p*o+c N))=O++N++f.drop o:=by rw[<-G,aP];simp
   rw[bK]at ab;have bk:(d.a.setRow j (O++N++f.drop o).toArray).heap[j]?=b (.cells (O++N++f.drop o).toArray T (0,0)):=setRow_heap d.a j _ _ T _ a6;have aw:∀g,g≠j->(d.a.setRow j (O++N++f.drop o).toArray).heap[g]?=d.a.heap[g]?:=λg a0=>setRow_other d.a j g _ a0;obtain⟨az,a8⟩:=bc.br (l:=l) (fN:=cg T o (.row j cap) (p+1) (O++N)) (b7:=L) (a5:=d.a.setRow j (O++N++f.drop o).toArray) ad S rfl Q
    (λg a0 bO=>aw g J) (λg a0=>.inl a0)
    ⟨λg=>if g=j then b (.cells (O++N++f.drop o).toArray T (0,0))else k,⟨aR,λA Y=>by grind,by grind,X,bq,f.drop o,by grind,rfl⟩,λg r a0=>by grind,λg=>by grind⟩ a a a
   refine⟨.row j cap,.value (.slice (b ⟨j,0,k⟩) (p+1) cap),_,_,?_,.inl a,Rd.val a,az,a8,?_⟩
   .rw[jh ae,an];simp only[cn,dv,cT];exact g3
   rw[jh ae,an];exact il f6
  exact Jd
def g.e7{f:Nat}{v w:Z}(C:h9 P r v w T bz)(K:bz.size=f){t:Nat}(A:r.dst=b t)(M:r.guard=k)(Q:eU B r.dst=i){b':dy}(N:bA F v=ce (cT b' p))(j:h[l]?=b (.Q (cg T f b' p O))){d:Nat->e D}(E:bA F w=aL (.M gz f 1 d)){dQ:e I}(y:c dQ=f)(z:∀(x:Mem) (o:I) (u:Nat) (s:D),(d 0)[u]?=b s->Rd x o s->dQ[u]?=b o/\dx o=i)(J:(p+1)*bz.bytes<=140737488355328)(n:∀a:dy,g q B a7 (.ar all bw::ax) .normal ((t,ce (cT a (p+1)))::F) (h.set l (.Q (cg T f a (p+1) (O++dQ))))):g q B a7 (.ar all (r::bw)::ax) .normal F h:=
 g.bO (ι:=dy) (λa=>ce (cT a (p+1))) (λa=>h.set l (.Q (cg T f a (p+1) (O++dQ)))) M Q (.e7 C K N j E y z J) λa=>by rw[A];exact n a
def g.jr(l:Nat)(s:ab)(w:Nat){E:Nat}(I:look F l=aL (.M i E 0 es))(r:∀f:dy,g q B a7 (.code u::ax) .normal ((l,ce (cT f 0))::F) (h++[.Q (cg s w f 0 [])])):g q B a7 (.code u::ax) .normal F h:=by
 refine bX.dQ (λx K j d=>?_) r;have v:=j.aC l;rw[I]at v;obtain⟨e,t,z,D,_,_,n,_,_⟩:=(b2 v).bx;have n:=n a;subst n;obtain⟨C,o⟩:=d.bL (bR:=.Q (cg s w (.nil e) 0 [])) (L:=⟨.nilFunc,[]⟩) (.refl _ _) rfl d ⟨λ_=>k,⟨rfl,by simp,by simp,rfl,rfl⟩,by simp,by simp,by simp⟩ Q;refine⟨.nil e,{x with m:=x.m++[⟨.nilFunc,[]⟩]},rfl,⟨j.size,j.defers.imp λ_ p=>p.mono o.ext,λy=>?_⟩,C,o⟩;simp only[look];cases J:aa l y with
 |false=>exact(j.aC y).mono o.ext d.len
 |true=>
  have A:=c1 J;subst A;show Rd _ _ _;rw[D];exact si
def g.gG(A l:Nat){o:Nat}{b':dy}(j:Nat->e D)(C:look F A=ce (cT b' p))(e4:h[l]?=b (.Q (cg T o b' p O)))(X:∀z,z<p->c (j z)=o/\∀U J u S,(j z)[J]?=b u->O[z*o+J]?=b S->Rd U S u)(I:g q B a7 (.code u::ax) .normal ((A,aL (.M m o p j))::F) (h.set l .t)):g q B a7 (.code u::ax) .normal F h:=by
 refine g.aK (λt ae y d=>?_) I;obtain⟨L,n,R,M,K,Z,ad,H⟩:=cg.eP e4 j X t d;have V:l<c h:=(cD.1 e4).1;have N:=y.aC A;rw[C]at N;have G:=Rd.aM N;have x:ey h t (h.set l .t) {t with n:=n}:=by
  refine⟨M,λf bR b7 kH iQ=>?_⟩;by_cases ak:l=f
  .exact Lp
  exact xC
 have r:cA h t (h.set l .t) {t with n:=n}:=by refine⟨bE _,λ_ _ _=>rfl,M,λv _ ab Y=>K v (ab L (bZ R)) Y,λL W v w=>.inr ⟨L,W,w⟩,x.box,rfl,rfl,rfl,rfl⟩
 refine⟨{t with n:=n},rfl,⟨y.size,y.defers.imp λ_ E=>E.mono r.ext,λQ=>?_⟩,⟨Z,by simp[d.len],?_,d.aL,d.lt,d.own⟩,r⟩
 .simp only[look];cases w:aa A Q with
  |false=>exact(y.aC Q).mono r.ext d.len
  |true=>
   have ak:=c1 w;subst ak;show Rd _ _ _;grind
 intro f bR b7 kH iQ;by_cases ak:l=f
 .subst ak;rw[hN V]at kH;cases kH;trivial
 rw[j7 ak]at kH;exact(d.box f bR b7 kH iQ).bU x d.len λv w=>⟨a,K v λs=>ak (d.aL l f L b7 R iQ v s w)⟩
end
structure fM(o p:Nat)(es:Nat->e D)(O:e I):Prop where
 len:c O=p*o
 dN:∀f,f<p->c (es f)=o
 cd:∀f,f<p->∀y u,(es f)[y]?=b u->∃A,O[f*o+y]?=b A/\∀bi,Rd bi A u
def fM.rd{h:Nat}(l:fM h p es O):∀a,a<p->c (es a)=h/\∀bi f e j,(es a)[f]?=b e->O[a*h+f]?=b j->Rd bi j e:=λa d=>
 ⟨l.dN a d,λbi f e j g q=>by obtain⟨r,n,o⟩:=l.cd a d f e g;grind⟩
def IB(d:I):C->C
 |.q 0 _ _ _=>.v d
 |a=>a
def BM(e:I):E1->E1
 |.S a=>.S (IB e a)
 |d=>d
def BN(a:I):e E1->e E1
 |[]=>[]
 |d::f=>BM a d::BN a f
def IC(a:I):s->s
 |.k d=>.k (BM a d)
 |.C O=>.C (BN a O)
 |.any=>.any
def o3(e:Nat):C->Bool
 |.q 0 _ d _=>aa d e
 |a=>mc a
def rJ(e:Nat):E1->Bool
 |.S a=>o3 e a
 |d=>tx d
def tT(a:Nat):e E1->Bool
 |[]=>i
 |d::f=>match rJ a d with|true=>tT a f|false=>m
def wF(a:Nat):s->Bool
 |.k d=>rJ a d
 |.C O=>tT a O
 |.any=>i
section
variable {o:Nat}{L:Loc}
def Wl(u:d.m[0]?=b L){f:C}(e:o3 p f=i)(h:ck [Y.q T o p es] d ai f):ck aO au ai (IB L.v f):=by
 cases f with
 |c x=>exact rq e h
 |any=>exact h
 |q q v w l=>
  cases q with
  |zero=>
   obtain⟨t,_,g⟩:=h;have g:=g T o p es a;have s:=c1 e;obtain⟨r,n,j⟩:=g.2 s.symm;rw[u]at n;cases n;show Rd _ _ _;rw[j];exact .val (j▸t.cell)
  |succ q=>simp[o3,mc]at e
 |ptr=>simp[o3,mc]at e
 |aD=>simp[o3,mc]at e
 |ak=>simp[o3,mc]at e
def IE(g:d.m[0]?=b L){A:E1}(e:rJ p A=i)(f:eh [Y.q T o p es] d ai A):eh aO au ai (BM L.v A):=by
 cases A with
 |S h=>exact Wl g e f
 |agg a=>exact Ac (A:=.agg a) e f
def IF(h:d.m[0]?=b L):∀{z:e I}{a:e E1},tT p a=i->eJ [Y.q T o p es] d z a->eJ aO au z (BN L.v a)
 |[],[],_,_=>trivial
 |[],_::_,_,f=>f.elim
 |_::_,[],_,f=>f.elim
 |n::z,l::a,g,f=>by
  simp only[tT]at g;cases j:rJ p l with
  |false=>grind
  |true=>simp only[j]at g;exact⟨IE h j f.1,IF h g f.2⟩
def ID(e:d.m[0]?=b L){a:s}(f:wF p a=i)(g:bo [Y.q T o p es] d ai a):bo aO au ai (IC L.v a):=by
 cases a with
 |k l=>exact IE e f g
 |C O=>obtain⟨z,h,j⟩:=g;exact⟨z,h,IF e f j⟩
 |any=>trivial
end
def uq:e ResultVar->Bool
 |[]=>i
 |.tmp _::a=>uq a
 |.cell _ _::_=>m
def IG{P:aw}{t:Act}:∀{rs:e ResultVar},uq rs=i->∃z,(∀a,(rs.mapM (hq t)).run P a=Result.ok z a)/\dp P (rs.mapM (hq t))
 |[],_=>⟨[],by simp,by rw[List.mapM_nil];exact .pure⟩
 |.tmp j::h,g=>by
  obtain⟨z,d,f⟩:=IG (P:=P) (t:=t) (rs:=h) g;refine⟨t.tmps.getD j E::z,λa=>?_,?_⟩
  .simp only[ny,cn,hq,dv,cM,d]
  rw[ny];exact .bind .pure λ_=>.bind f λ_=>.pure
def kX.tmp{n:ar}{fn:Func}{a:az}(s:kX P n a ai d)(I:P.funcs[n]?=b fn)(D:uq fn.results.toList=i)(w:∀q u v,d.n q u=b v->d.a.cell? ⟨q,u,k⟩=b v):kX P n a ai au:=by
 obtain⟨o,p,E,B,f,C,x⟩:=s;have h:f=fn:=J;subst h;let t:Act:={tmps:=a.tmps,defers:=[]}
 obtain⟨z,k1,y⟩:=IG (P:=P) (t:=t) D;have j:∀e,(f.results.mapM (hq t)).run P e=Result.ok z.toArray e:=λe=>by grind[Array.mapM_eq_mapM_toList,Sem.run_map,Go.Result.andThen_ok]
 have g:∀e,(results f a.tmps).run P e=.ok (if s:z.toArray.size=1 then z.toArray[0]else .tuple z.toArray) e:=λe=>by unfold results;rw[cn];refine(er (λF=>Result.andThen F _) (j e)).trans ?_;simp
 have l:dp P (results f a.tmps):=by
  unfold results;have h:dp P (f.results.mapM (hq t)):=by rw[u'];exact .map y
  exact .bind h λ_=>.pure
 have r:=(x d.a w).1;rw[g]at r;cases r;exact⟨o,p,E,B,f,C,λe _=>⟨g e,λh A=>by rw[l e #[]]at A;grind⟩⟩
def ad.thaw{aS:al P}[aS.bT]{aY:ar}{args:e s}{A:s}{n:Nat}(F:ad aS aY args [] A [.q T n p es]){fn:Func}(aw:P.funcs[aY]?=b fn)(aC:uq fn.results.toList=i)(bf:wF p A=i)(aq:∀B,B<p->c (es B)=n/\∀aT∈es B,lm aT=i):
  bG (ι:={W:dy×e I // fM n p es W.2}) aS aY args [] (λW=>IC (cT W.1.1 p) A) (λW=>[.Q (cg T n W.1.1 p W.1.2)]):=by
 refine⟨F.1,λaF z a6 N bs aV ah=>F.2 aF z a6 N bs aV λab bm au az y d f=>?_⟩;have a':aF.m=[]:=j5 N.len;have a3:c au.m=1:=d.len;obtain⟨L,bd⟩:∃L,au.m=[L]:=by
  match RR:au.m with
  |[L]=>grind
  |[]=>grind
  |_::_::_=>grind
 have M:au.m[0]?=b L:=J;obtain⟨ai,ak⟩:=d.box 0 _ L rfl M;rcases ak with⟨⟨bh,aB⟩,w⟩|⟨j,cap,cells,ag,C,an,bD⟩
 .subst aB;obtain⟨bg,cap,bn,a8,a0,bj,aE,_⟩:=w.bx;have G:cap=0:=aE a;subst G;let E:aj:={au with m:=[⟨.nilFunc,[]⟩]}
  have a1:eg au E:=⟨rfl,λ_ _ _ F=>F,λ_ _ _=>rfl,d.mem,λj aR=>by grind⟩
  have aP:fM n 0 es []:=⟨by simp,λB r=>by omega,λB r=>by omega⟩
  refine .aK a1 (ah ⟨(.nil bg,[]),aP⟩ ab bm E (az.tmp aw aC d.mem) ?_ ?_ ?_)
  .have:=ID (aO:=[Y.Q (cg T n (.nil bg) 0 [])]) (au:=E) M bf y;rw[a8]at this;exact this
  .refine⟨d.mem,a,λS aQ o ao g=>?_,?_,by grind,λj aR=>⟨(d.own j aR).1,by grind⟩⟩
   .cases S with
    |zero=>cases ao;cases g;exact⟨λ_=>k,⟨a,by simp,by simp,a,a⟩,by simp,by simp,by simp⟩
    |succ S=>grind
   grind
  refine⟨f.size,f.aG,f.mem,f.ba,λo g j aR=>?_,λS aQ o ao=>by grind,f.os,f.tape,f.output,f.own⟩;grind
 .subst ag;have bb:j∈(⟨.slice (b ⟨j,0,k⟩) p cap,[j]⟩:Loc).V:=Q;have aM:aF.a.heap.size<=j:=by
   rcases f.bp _ J j bb with ae|⟨bq,ae,_⟩
   .exact ae
   grind
  have aZ:j<au.a.heap.size:=d.lt _ J j bb;obtain⟨bA,aU,K,bt,bl,br,_,af,a4⟩:=ai.bx;cases bt;have bc:c K=p*n:=af.len;have a9:∀v X,K[v]?=b X->cells[v]?=b X:=λv X R=>by obtain⟨bB,ba,aL,bz⟩:=a4 v X R;cases aL;have:=d.mem _ _ _ bz;simp only[aJ,C]at this;simpa using this
  have bk:p*n<=c cells:=by rw[an];exact gC _ bl
  have aN:cells.take (p*n)=K:=kT;have a7:K++cells.drop (p*n)=cells:=Cm;have aP:fM n p es K:=by refine⟨bc,λB r=>(aq B r).1,λB r bC aT O=>?_⟩;obtain⟨X,V,aH⟩:=af.rd B r bC aT O;grind[rq]
  have H:∀aK∈K,dx aK=i:=λaK a_=>by
   obtain⟨v,R,rfl⟩:=ft a_;have a2:0<n:=J;have r:v / n<p:=qD J;have bw:v / n*n+v % n=v:=sL v n;have O:v % n<c (es (v / n)):=by rw[(aq _ r).1];exact oA _ a2
   obtain⟨X,V,aH⟩:=aP.cd _ r _ _ (bu O);rw[bw,bu R]at V;cases V;exact(aH aF.n).cell
  have bo:∀h t l,aF.n h t=b l->h≠j:=λh t l aA aL=>by have:=N.block aA;omega
  let Z:Mem:=λh t=>if h=j then k else au.n h t;let U:aj:={au with m:=[],own:=λaK=>au.own aK∨aK=j}
  let aG:aj:={U with n:=Z}
  let E:aj:={au with m:=[⟨.nilFunc,[j]⟩],n:=Z}
  have D:∀h t l,Z h t=b l->au.n h t=b l:=λh t l q=>by grind
  have ay:eg au U:=⟨rfl,λ_ _ _ F=>F,λ_ _ _=>rfl,d.mem,λh u=>by
   rcases u with(u|u)|⟨o,g,_⟩
   .grind
   .exact .inr ⟨_,by rw[bd];simp;rfl,by grind⟩
   grind⟩
  have ax:mE U aG:=⟨rfl,rfl,rfl,D,λh t l q=>by grind⟩
  have bx:eg aG E:=⟨rfl,λ_ _ _ F=>F,λ_ _ _=>rfl,λh t l q=>d.mem _ _ _ (D _ _ _ q),λh u=>by grind⟩
  refine .aK ay (.bY al.bT.ok ax (.aK bx (ah ⟨(.row j cap,K),aP⟩ ab bm E (az.tmp aw aC d.mem) ?_ ?_ ?_)))
  .exact ID (L:=⟨.slice (b ⟨j,0,k⟩) p cap,[j]⟩) M bf y
  .refine⟨λh t l q=>d.mem _ _ _ (D _ _ _ q),a,λS aQ o ao g=>?_,?_,λo g h u=>?_,λh u=>⟨(d.own h u).1,λo g=>?_⟩⟩
   .cases S with
    |zero=>
     cases ao;cases g;refine⟨λh=>if h=j then b (.cells (K++cells.drop (p*n)).toArray T (0,0))else k,⟨a,H,bc,bl,br,cells.drop (p*n),J,a⟩,λh t u=>J,λh=>?_,λh u t=>?_⟩
     .by_cases aL:h=j<;>simp[aL]
     grind
    |succ S=>grind
   .grind
   .grind
   simp[E]at g;subst g;have:=(d.own h u).2 _ (by rw[bd];simp;rfl);grind
  refine⟨f.size,f.aG,λh t l q=>?_,λh u a5 t=>?_,λo g h u=>?_,λS aQ o ao=>by grind,f.os,f.tape,f.output,f.own⟩
  .simp only[E,Z,bp (bo h t l q)];exact f.mem _ _ _ q
  .have:h≠j:=x;simp only[E,Z,bp this];exact f.ba h u a5 t
  grind
section
variable {q:al P}
def g.fb{e:Prop}(l:∀d,aZ h d->e)(n:e->g q B a7 (.code u::ax) .normal F h):g q B a7 (.code u::ax) .normal F h:=
 λd f j a=>n (l d a) d f j a
def g.fV{e:Prop}(l:∀d,aZ h d->e)(n:e->g q B a7 (.ar all bw::ax) .normal F h):g q B a7 (.ar all bw::ax) .normal F h:=
 λd f j a=>n (l d a) d f j a
def cg.len{r:ab}{p f l:Nat}{a:dy}{O:e I}(g:h[l]?=b (.Q (cg r p a f O)))(q:aj)(bc:aZ h q):c O=f*p/\f<=9223372036854775807/\(0<f->∃n d,a=.row n d)/\∀j,a=.nil j->f=0:=by
 have s:l<c q.m:=fk;obtain⟨t,o,_⟩:=bc.box l _ _ g (bu s);cases a with
 |nil j=>obtain⟨_,_,u,rfl,_⟩:=o;grind
 |row n d=>obtain⟨_,_,u,v,w,_⟩:=o;grind
def g.jd(aG:bT P ag)(E:Nat){u:Z}{s:bh}{dS:ab}{D:Nat}{f:dy}(cO:r.op=.call {callee:=.builtin .len,args:=#[u],argTypes:=dK})(N:dK[0]?=b w)(n:bY ag w=b s)(I:s.desc=.slice dS)(C:bA F u=ce (cT f p))(o:h[E]?=b (.Q (cg T D f p O)))(Q:r.guard=k)(v:eU B r.dst=i)(t:g q B a7 (.ar all bw::ax) .normal (fy r.dst (aL (.int .i64 p)) F) h):g q B a7 (.ar all (r::bw)::ax) .normal F h:=by
 refine g.bO (ι:=Unit) (λ_=>aL (.int .i64 p)) (λ_=>h) Q v (λl x J j=>?_) λ_=>t;obtain⟨_,z,_,M⟩:=cg.len o l j;have ac:=eO J u;rw[C]at ac;have ac:=Rd.aM ac;have a2:=(aG w s n).run_underlying (K:=l.a);rw[I]at a2;have X:dK[0]?=b w:=N;have y:∃e d,cT f p=.slice e p d:=by
  cases f with
  |nil e=>rw[M e rfl];exact⟨e,0,a⟩
  |row R d=>exact⟨_,d,rfl⟩
 obtain⟨e,d,A⟩:=y;rw[A]at ac;refine⟨(),.value (.int .i64 p),l,.int .i64 p,LB,.inl a,Rd.int cF,j,.refl _ _,?_⟩;have:(W x.eval r).events P l.a #[]=#[]:=LB;rw[this];exact .nil
def tw:e C->Bool
 |[]=>i
 |.c d::a=>match lm d with|true=>tw a|false=>m
 |_=>m
def mM(z:e I)(a:e C):Prop:=c z=c a/\∀(f:Nat)(d:D),a[f]?=b (C.c d)->∃g,z[f]?=b g/\∀h,Rd h g d
theorem mM.of{n:e Y}{r:aj}:∀{z:e I}{d:e C},tw d=i->bJ n r z d->mM z d
 |[],[],_,_=>⟨rfl,λj o f=>by grind⟩
 |[],_::_,_,g=>g.elim
 |_::_,[],_,g=>g.elim
 |s::z,.c t::d,f,g=>by
  simp only[tw]at f;cases l:lm t with
  |false=>grind
  |true=>
   simp only[l]at f;obtain⟨p,q⟩:=mM.of f g.2;refine⟨by grind,λj o h=>?_⟩;cases j with
   |zero=>simp at h;subst h;exact⟨s,a,λu=>rq l g.1⟩
   |succ j=>grind
 |_::_,.ptr _ _::_,f,_=>by exact cF
 |_::_,.q _ _ _ _::_,f,_=>by exact cF
 |_::_,.aD _::_,f,_=>by exact cF
 |_::_,.ak _ _::_,f,_=>by exact cF
 |_::_,.any::_,f,_=>by exact cF
theorem bJ.ga{h:e Y}{j:aj}:∀{z:e I}{d:e C},bJ h j z d->∀g∈z,AM.dx g=i
 |[],[],_,g,f=>by grind
 |[],_::_,a,_,_=>a.elim
 |_::_,[],a,_,_=>a.elim
 |n::z,l::d,a,g,f=>by
  rcases ef.1 f with rfl|f
  .exact ck.cell a.1
  exact bJ.ga a.2 g f
def d_.fC(aG:bT P ag)(l:Nat){X n:Z}{o cap:Nat}{new:e C}{V:bh}(au:r.op=.store w X n)(S:bY ag w=b V)(U:bA F X=ce (.pointer (b ⟨j,off,k⟩)))(aj:kA (bA F n)=b new)(ae:c new=V.size)(R:tw new=i)(t:h[l]?=b (.Q (cg T o (.row j cap) p O)))(af:off+c new<=c O):
  d_ P B r F h (ι:={z:e I // mM z new}) (λ_=>.any) (λz=>h.set l (.Q (cg T o (.row j cap) p (O.take off++z.1++O.drop (off+c z.1))))):=by
 intro g q N bc;have u:=eO N X;rw[U]at u;have u:=Rd.aM u;have D:=q1 aj (eO N n);have ad:l<c h:=(cD.1 t).1;have aF:l<c g.m:=fk;have Y:=bu aF;generalize g.m[l]=L at Y;obtain⟨aN,A,aQ,aL,K⟩:=bc.box l _ L t Y;obtain⟨d,aA,aq,ab⟩:=cg.lookup A;obtain⟨aM,aS,az,G,aK,_⟩:=A;have ao:j∈L.V:=(aL j).2 J;have ak:=aQ j _ aq;let z:=(q.eval n).cells.toList;have ar:mM z new:=mM.of R D;have ay:c z=c new:=ar.1;have aB:off+0+c z<=(O++d).toArray.size:=J;have an:=run_storeCells_at P j off T z 0 (O++d).toArray g.a ak aB D.cell;simp only[iK]at an;have aC:(O++d).take off++z++(O++d).drop (off+c z)=(O.take off++z++O.drop (off+c z))++d:=J;rw[aC]at an;have ai:c (O.take off++z++O.drop (off+c z))=c O:=J;have ah:=setRow_heap g.a j (O++d).toArray ((O.take off++z++O.drop (off+c z))++d).toArray T (0,0) ak;have s:∀f,f≠j->(g.a.setRow j ((O.take off++z++O.drop (off+c z))++d).toArray).heap[f]?=g.a.heap[f]?:=λf y=>setRow_other g.a j f _ y;obtain⟨al,t2⟩:=bc.br (l:=l) (fN:=cg T o (.row j cap) p (O.take off++z++O.drop (off+c z))) (b7:=L) (a5:=g.a.setRow j ((O.take off++z++O.drop (off+c z))++d).toArray) t Y rfl Q
  (λf y aP=>s f J) (λf y=>.inl y)
  ⟨λf=>if f=j then b (.cells ((O.take off++z++O.drop (off+c z))++d).toArray T (0,0))else k,⟨aM,λX U=>by grind[bJ.ga],by grind,G,aK,d,by grind,rfl⟩,λf r y=>by simp_all,λf=>by simp_all⟩ a a a
 have H:(q.eval n).cells.size=V.size:=J;refine⟨⟨z,ar⟩,.skip,_,E,?_,.inr ⟨a,a⟩,M,al,t2,?_⟩
 .have ax:(storeCells ⟨j,off,k⟩ (q.eval n).cells.toList).run P g.a=_:=an;simp[W,au,u,Instr.storeAt,aU,storeVar,(aG w V S).aU,H,ax]
 intro v x;have aO:W q.eval r=(do storeVar w ⟨j,off,k⟩ (q.eval n);pure .skip):=by simp[W,au,u,Instr.storeAt,aU]
 rw[aO]at x;have aJ:v∈(storeCells ⟨j,off,k⟩ (q.eval n).cells.toList).events P g.a #[]:=by
  simp only[storeVar,aE,(aG w V S).aU,H,aH,events_sizeOf,e3,gD,cr,cn,cM,aT]at x;generalize(storeCells ⟨j,off,k⟩ (q.eval n).cells.toList).run P g.a=aR at x;cases aR with
  |ok aY a5=>simpa using x
  |halt X a5=>simpa using x
 rcases li (q.eval n).cells.toList 0 (O++d).toArray g.a #[] ak aB D.cell v aJ with aw|⟨aV,_,_,rfl⟩
 .grind
 exact l' (bZ Y) ao (K j ao _)
def g.fC{n:e (Nat×bh)}(aG:bT P n)(l:Nat){t:ab}{u v:Z}{T:ab}{o p j cap off:Nat}{O:e I}{new:e C}{s:bh}(D:r.op=.store t u v)(a:bY n t=b s)(J:bA F u=ce (.pointer (b ⟨j,off,k⟩)))(A:kA (bA F v)=b new)(x:c new=s.size)(y:tw new=i)(d:h[l]?=b (.Q (cg T o (.row j cap) p O)))(w:off+c new<=c O)(E:r.guard=k)(K:eU B r.dst=i)(f:∀z,mM z new->g q B a7 (.ar all bw::ax) .normal (fy r.dst .any F) (h.set l (.Q (cg T o (.row j cap) p (O.take off++z++O.drop (off+c z)))))):g q B a7 (.ar all (r::bw)::ax) .normal F h:=
 g.bO _ _ E K (d_.fC aG l D a J A x y d w) λz=>f z.1 z.2
def g.swap(e f:Nat){l n:I->(Nat->Option Obj)->Prop}(G:e≠f)(z:h[e]?=b (.Q l))(A:h[f]?=b (.Q n))(Q:∀T r,l T r->T=.nilFunc)(al:∀T r,n T r->T=.nilFunc)(V:g q B a7 (.code u::ax) .normal F ((h.set e (.Q n)).set f (.Q l))):g q B a7 (.code u::ax) .normal F h:=by
 refine g.aK (λp az Z bc=>?_) V;have s:e<c h:=(cD.1 z).1;have D:f<c h:=(cD.1 A).1;have an:e<c p.m:=fk;have ar:f<c p.m:=fk;obtain⟨J,ae⟩:∃L,p.m[e]?=b L:=⟨_,bu an⟩;obtain⟨K,ag⟩:∃L,p.m[f]?=b L:=⟨_,bu ar⟩;have ab:=bc.box e _ J z ae;have ad:=bc.box f _ K A ag;have ay:J.v=.nilFunc:=by obtain⟨r,H,_⟩:=ab;grind
 have au:K.v=.nilFunc:=by obtain⟨r,H,_⟩:=ad;grind
 let o:aj:={p with m:=(p.m.set e K).set f J}
 have af:∀d,((h.set e (.Q n)).set f (.Q l))[d]?=if d=f then b (.Q l)else if d=e then b (.Q n)else h[d]?:=λd=>by grind
 have W:∀d,o.m[d]?=if d=f then b J else if d=e then b K else p.m[d]?:=λd=>by grind
 have Y:∀L∈o.m,L∈p.m:=λL j=>by grind
 have v:ey h p ((h.set e (.Q n)).set f (.Q l)) o:=by
  refine⟨λ_ _ _ O=>O,λd U L ao j=>?_⟩;rw[af,W];by_cases y:d=f
  .subst y;rw[A]at ao;cases ao;rw[ag]at j;cases j;exact⟨.Q l,J,by simp,by simp,by show J.v=_;grind⟩
  by_cases t:d=e
  .subst t;rw[z]at ao;cases ao;rw[ae]at j;cases j;exact⟨.Q n,K,by simp[y],by simp[y],by show K.v=_;grind⟩
  exact⟨U,L,by grind,by grind,.refl _ _⟩
 have X:cA h p ((h.set e (.Q n)).set f (.Q l)) o:=by exact⟨bE _,λ_ _ _=>rfl,λ_ _ _ O=>O,λ_ _ _ _=>rfl,λL O x w=>.inr ⟨L,Y L O,w⟩,v.box,rfl,rfl,rfl,rfl⟩
 refine⟨o,a,⟨Z.size,Z.defers.imp λ_ Q=>Q.mono v,λaq=>(Z.aC aq).mono v bc.len⟩,⟨bc.mem,by simp[o,bc.len],?_,?_,λL j x w=>bc.lt L (Y L j) x w,λx w=>⟨(bc.own x w).1,λL j=>(bc.own x w).2 L (Y L j)⟩⟩,X⟩
 .intro d U L ao j;rw[af]at ao;rw[W]at j;split at ao
  .rename_i y;rw[bF y]at j;cases ao;cases j;exact ab
  rename_i y;rw[bp y]at j;split at ao
  .rename_i t;rw[bF t]at j;cases ao;cases j;exact ad
  rename_i t;rw[bp t]at j;exact(bc.box d U L ao j).bU v bc.len λx w=>⟨a,λ_=>rfl⟩
 intro d E M N R S x w C;rw[W]at R S;have key:∀d L,(if d=f then b J else if d=e then b K else p.m[d]?)=b L->p.m[if d=f then e else if d=e then f else d]?=b L:=λd L aA=>by grind
 have:=bc.aL _ _ M N (key d M R) (key E N S) x w C;by_cases ah:d=f<;>by_cases ai:E=f<;>by_cases ak:d=e<;>by_cases aw:E=e<;>simp_all
def g.jo(aG:bT P ag){N R:Z}{an:bh}{S L:IntKind}(aF:r.op=.makeSlice w N R)(ah:bY ag w=b an)(ae:an.desc=.slice T)(ab:bY ag T=b bz)(ak:bA F N=aL (.int S p))(al:bA F R=aL (.int L p))(D:p*bz.bytes<=140737488355328)(aY:p<=140737488355328)(af:r.guard=k)(ad:eU B r.dst=i)(au:∀t O,g q B a7 (.ar all bw::ax) .normal (fy r.dst (ce (cT (.row t p) p)) F) (h++[.Q (cg T bz.size (.row t p) p O)])):g q B a7 (.ar all (r::bw)::ax) .normal F h:=by
 refine g.bO (ι:=Nat×e I) (λn=>ce (cT (.row n.1 p) p)) (λn=>h++[.Q (cg T bz.size (.row n.1 p) p n.2)]) af ad (λd V z j=>?_) λn=>au n.1 n.2;have A:=eO z N;rw[ak]at A;have A:=b2 A;generalize aA:V.eval N=aQ at A;cases A;have E:=eO z R;rw[al]at E;have E:=b2 E;generalize aB:V.eval R=aR at E;cases E;have ar:=(aG w an ah).eC;rw[ae]at ar;obtain⟨u,M,G,aS,aT,aE,aC,aU,aV⟩:=(aG T bz ab).cK;have v:(u.bytes:Int)*(p:Int)<=281474976710656:=J;have aM:=run_make (P:=P) (w:=d.a) w T u M ar G aE S L p p x (Int.le_refl _) v x;simp only[dB]at aM;let O:=(madeCells M.cells (p*u.size)).toList;have H:c O=p*bz.size:=by grind[size_madeCells]
 have aJ:∀y∈M.cells.toList,dx y=i:=bJ.ga (sC (h:=h) (d:=d) aC);have aK:c M.cells.toList=bz.size:=by have:=er List.length aC;grind
 have aP:∀y∈O,dx y=i:=by intro y aj;simp only[O,madeCells,Array.toList_map,fF]at aj;grind[Nat.mod_lt]
 have ao:ek (h++[.Q (cg T bz.size (.row d.a.heap.size p) p O)]) {d with a:=d.a.alloc (.cells O.toArray T),m:=d.m++[⟨.nilFunc,[d.a.heap.size]⟩]} (.Q (cg T bz.size (.row d.a.heap.size p) p O)) ⟨.nilFunc,[d.a.heap.size]⟩:=by
  refine⟨λC=>if C=d.a.heap.size then b (.cells (O++[]).toArray T (0,0))else k,⟨a,aP,H,bE _,by omega,[],by grind,a⟩,λC r v=>?_,λC=>?_,λC v r=>?_⟩
  .by_cases l:C=d.a.heap.size
   .subst l;simp only[cN]at v;grind[kI]
   grind
  .by_cases l:C=d.a.heap.size<;>simp[l]
  simp at v;subst v;cases U:d.n d.a.heap.size r with
  |none=>rfl
  |some y=>have:=j.block U;omega
 have s:aZ h {d with a:=d.a.alloc (.cells O.toArray T)}/\cA h d h {d with a:=d.a.alloc (.cells O.toArray T)}:=
  j.cF Q (λt D=>hY d.a _ D) (λt D r=>rfl) (λt D r y U=>by have:=j.block U;omega) a a a
 obtain⟨X,Y⟩:=s.1.bL s.2 rfl j ao (λt D=>by simp_all);refine⟨(d.a.heap.size,O),.value (.slice (b ⟨d.a.heap.size,0,k⟩) p p),_,_,?_,.inl a,Rd.val a,X,Y,?_⟩
 .simp[W,aF,aA,aB,aM,O]
 have l:W V.eval r=(do pure (.value (<-Instr.makeSlice w (.int S p) (.int L p)))):=by simp[W,aF,aA,aB]
 rw[l];refine il ?_;intro l o;have ai:∀f,(underlying w).run P f=.ok (.slice T) f:=λf=>by simp[underlying,ar]
 have aq:∀f,(typeInfo T).run P f=.ok u f:=λf=>by simp[typeInfo,G]
 have aN:∀f,(zeroValue T).run P f=.ok M f:=λf=>by simp[zeroValue,typeInfo,G,aE]
 have aO:∀f,(sizeOf T).run P f=.ok u.size f:=λf=>by simp[sizeOf,typeInfo,G]
 have az:IntKind.i64.wrap (p:Int)=p:=by grind[IntKind.wrap_i64]
 have aw:¬(p:Int)<0:=x;have ay:¬(281474976710656<(u.bytes:Int)*p):=x;simp[Instr.makeSlice,ai,aq,aO,asInt,asIntOf,az,aw,ay]at o;rw[aN]at o;simp only[aH,(dp.newRow (P:=P)) _ _,ite_self]at o;unfold askRoom at o;split at o
 .have:l=⟨.mark .noRoom,m,i⟩:=by simpa using o
  rw[this];exact .inl a
 simp at o
end
section
variable {o N:Nat}{bk:I}
end
def RF{O z:e α}{a:Nat}(g:a+c z<=c O)(d:Nat):(O.take a++z++O.drop (a+c z))[d]?=if a<=d/\d<a+c z then z[d-a]? else O[d]?:=by have f:c (O.take a)=a:=J;grind
def fM.fA{a:Nat}{g:Nat->e D}{new:e C}(o:fM a p es O)(h j:Nat)(bL:h<p)(r:mM z new)(B:j+c new<=a)(y:∀d,d<p->d≠h->g d=es d)(t:c (g h)=a)(A:∀(f:Nat) (l:D),(g h)[f]?=b l->(j<=f/\f<j+c new/\new[f-j]?=b (C.c l))∨(¬(j<=f/\f<j+c new)/\(es h)[f]?=b l)):fM a p g (O.take (h*a+j)++z++O.drop (h*a+j+c z)):=by
 have M:h*a+a<=p*a:=Cl;have I:=r.1;have E:=o.len;have s:h*a+j+c z<=c O:=x;refine⟨by grind,λd n=>?_,λd n f l w=>?_⟩
 .by_cases q:d=h
  .grind
  rw[y d n q];exact o.dN d n
 rw[RF s];by_cases q:d=h
 .subst q;rcases A f l w with⟨b8,cY,K⟩|⟨b8,cY⟩
  .rw[bF x,show d*a+f-(d*a+j)=f-j by omega];exact r.2 _ l K
  rw[bp x];exact o.cd d n f l cY
 have v:(es d)[f]?=b l:=J;have F:f<a:=by rw[<-o.dN d n];grind
 rw[bp ?_]
 .exact o.cd d n f l v
 rcases Nat.lt_or_gt_of_ne q with u|X
 .have:d*a+a<=h*a:=by rw[<-ox];exact gC _ u
  omega
 have:h*a+a<=d*a:=I3;omega
def fM.eY{f:Nat}{a:Nat->e D}(j:fM f p es O)(t:∀d,d<p->a d=es d)(u:c (a p)=f)(y:c z=f)(B:∀(g:Nat)(h:D),(a p)[g]?=b h->∃o,z[g]?=b o/\∀q,Rd q o h):fM f (p+1) a (O++z):=by
 have v:=j.len;refine⟨by grind,λd n=>?_,λd n g h A=>?_⟩
 .by_cases s:d=p
  .grind
  rw[t d x];exact j.dN d x
 by_cases s:d=p
 .grind
 have l:d<p:=x;have r:(es d)[g]?=b h:=J;have w:g<f:=by rw[<-j.dN d l];grind
 have:d*f+f<=p*f:=by rw[<-ox];exact gC _ l
 rw[jE x];exact j.cd d l g h r
def n7(d:e (Nat×bh))(a:bd):e ResultVar->Option (e s)
 |[]=>b []
 |.tmp l::j=>match n7 d a j with
  |some h=>b (look a l::h)
  |none=>k
 |.cell f l::j=>match n7 d a j with
  |some h=>match look a f with
   |.k (.S (.c (.U g)))=>match bY d l with
    |some o=>match gl o (g.map C.c)with
     |some n=>b (.k n::h)
     |none=>k
    |none=>k
   |_=>k
  |none=>k
def Bf{P:aw}{X:e (Nat×bh)}(aG:bT P X){aJ:Nat}{Z:e Y}{q:aj}{W:bd}{U:Act}(ah:bQ aJ Z q W U):∀{R:e ResultVar}{d:e s},n7 X W R=b d ->
  ∃z,bW Z q z d/\∀K,(∀j y S,q.n j y=b S->K.cell? ⟨j,y,k⟩=b S)->(R.mapM (hq U)).run P K=Result.ok z K/\∀n,∀x∈(R.mapM (hq U)).events P K n,x∈n∨∃j y S,x=⟨.cell ⟨j,y,k⟩,m,m⟩/\q.n j y=b S
 |[],d,l=>by cases l;exact⟨[],M,λK _=>⟨by simp,λn x o=>.inl (by simpa using o)⟩⟩
 |.tmp w::ay,d,l=>by
  simp only[n7]at l;cases V:n7 X W ay with
  |none=>grind
  |some aR=>
   simp[V]at l;subst l;obtain⟨z,ak,aq⟩:=Bf aG ah V;refine⟨U.tmps.getD w E::z,⟨ah.aC w,ak⟩,λK A=>?_⟩;obtain⟨k1,Q⟩:=aq K A;refine⟨by simp only[ny,cn,hq,dv,cM,k1],λn x o=>Q n x ?_⟩;simpa[ny,hq,k1]using o
 |.cell u w::ay,d,l=>by
  simp only[n7]at l;cases V:n7 X W ay with
  |none=>grind
  |some aR=>
   simp only[V]at l;have ae:=ah.aC u;generalize look W u=aY at l ae;split at l
   case h_2=>cases l
   rename_i f;cases F:bY X w with
   |none=>grind
   |some t=>
    simp only[F]at l;cases O:gl t (f.map C.c)with
    |none=>grind
    |some al=>
     simp[O]at l;subst l;obtain⟨z,ak,aq⟩:=Bf aG ah V;have G:=b2 ae;generalize aO:U.tmps.getD u E=aU at G;cases G;rename_i j h ab N aA;let T:=(aI (c f)).map ab;have H:bJ Z q T (f.map C.c):=by
      have key:∀(p:Nat) (d:e D),(∀g ag,d[g]?=b ag->Rd q.n (ab (p+g)) ag)->bJ Z q ((aI (c d)).map λg=>ab (p+g)) (d.map C.c):=by
       intro p d;induction d generalizing p with
       |nil=>intro _;trivial
       |cons aQ d ar=>
        intro ad;rw[fR,uZ];refine⟨ad 0 aQ a,?_⟩;have:=ar (p+1) (λg ag v=>by have:=ad (g+1) ag J;grind);grind[Function.comp_def]
      have:=key 0 f J;grind
     have aF:∀(g:Nat) (r:I),T[g]?=b r->q.n j (h+g)=b r:=λg r v=>by
      simp only[T,lW]at v;by_cases aB:g<c f
      .simp[aB]at v;subst v;exact N g f[g] (bu aB)
      grind
     let aV:af:={q.a with heap:=q.a.heap}
     have aC:∃r,eh Z q r al/\∀K,(∀j y S,q.n j y=b S->K.cell? ⟨j,y,k⟩=b S)->(loadVar w ⟨j,h,k⟩).run P K=.ok r K:=by
      have ai:=aG w t F;cases B:t.agg<;>simp only[gl,B]at O
      .cases ax:cH 0 (f.map C.c)with
       |none=>grind
       |some aP=>
        simp[ax]at O;subst O;obtain⟨r,ao,aM⟩:=H.get (dL ax);refine⟨r,aM,λK A=>?_⟩;have:=A _ _ _ (aF 0 r ao);simp only[loadVar,cn,ai.d',cM,B];grind[run_load]
      cases ax:lH t.size (f.map C.c)with
      |none=>grind
      |some r0=>
       simp[ax]at O;subst O;obtain⟨au,aS⟩:=r8 ax;have az:=H.take t.size;rw[<-au]at az;have an:c (T.take t.size)=t.size:=J;refine⟨.agg (T.take t.size).toArray,⟨T.take t.size,a,az⟩,λK A=>?_⟩;have L:=run_loadCells_list (P:=P) K ⟨j,h,k⟩ (T.take t.size) (λg r v=>by grind[gg]);rw[an]at L;simp only[loadVar,cn,ai.d',cM,B];simp[ai.aU,L]
     obtain⟨r,aL,aN⟩:=aC;refine⟨r::z,⟨aL,ak⟩,λK A=>?_⟩;obtain⟨k1,Q⟩:=aq K A;have aK:(hq U (.cell u w))=loadVar w ⟨j,h,k⟩:=by simp[hq,aO,asAddr]
     refine⟨by grind[Go.Sem.run_bind,Go.Sem.run_pure,Go.Result.andThen_ok],λn x o=>?_⟩;rw[ny,aK]at o;simp only[aE,aN K A,aH,k1,aT]at o;rcases Q _ x o with o|o
     .rcases AD o with o|o
      .grind
      obtain⟨g,v,rfl⟩:=mY (aG w t F) (K:=K) (p:=c f) (λg v=>⟨ab g,A _ _ _ (N g f[g] (bu v))⟩) (by have:=pe O;grind) x o;exact .inr ⟨j,h+g,ab g,a,N g f[g] (bu v)⟩
     grind
theorem ns.eW(aG:bT P ag){fn:Func}{j:e s}{r:s}(x:n7 ag F fn.results.toList=b j)(p:nX j=b r):ns P fn F r:=by
 intro D E B h v;obtain⟨z,n,o⟩:=Bf aG v x;refine⟨_,Ge p n,λg w=>?_⟩;obtain⟨k1,y⟩:=o g w;have l:(fn.results.mapM (hq h)).run P g=Result.ok z.toArray g:=LC;have u:∀a,∀f∈(fn.results.mapM (hq h)).events P g a,f∈a∨∃q t C,f=⟨.cell ⟨q,t,k⟩,m,m⟩/\B.n q t=b C:=by rw[u'];intro a f d;exact y a f (by simpa using d)
 constructor
 .unfold results;rw[cn];refine(er (λA=>Result.andThen A _) (Eq.trans ?_ l)).trans ?_
  .congr 2
  simp
 intro f d;have I:f∈(fn.results.mapM (hq h)).events P g #[]:=by unfold results at d;rw[aE]at d;change f∈((fn.results.mapM (hq h)).run P g).evThen ((fn.results.mapM (hq h)).events P g #[]) _ at d;rw[l]at d;simpa using d
 grind
section
variable {q:al P}
def rW(j:e (Nat×bh))(g:e ResultVar)(d:e Nat)(h:bd)(a:s):Option (e Prop):=
 match n7 j h g with
 |some f=>match nX f with
  |some l=>match g6 (c d) a with
   |true=>iU l (eZ d a)
   |false=>k
  |none=>k
 |none=>k
def g.gp(aG:bT P ag){fn:Func}{l:Nat}{f:s}(d:e Nat)(n:rW ag fn.results.toList d F f=b aB)(r:V aB)(t:dj d h=b aO)(p:kN aO=i)(u:eX d=i)(o:∀j,j<l->d[j]?=b j):
  g q B (j4 P fn l f aO) (.code .ret::ax) .normal F h:=by refine g.ret ⟨.inl a,d,?_⟩;unfold rW at n;grind[ns.eW]
def ad.c5{l:ar}{fn:Func}{args:e s}{res:s}(j:P.funcs[l]?=b fn)(f:(fn.name== "runtime.NumGoroutine")=m)(p:fn.body=b u)(o:aD args.length fn.ntmps=i)(r:jA args h->g q fn.ntmps (j4 P fn h.length res aO) [.code u] .normal (hh 0 args) h):ad q l args h res aO:=by refine⟨⟨fn,j,f,by grind⟩,λn z d a=>?_⟩;have:=bG.gZ (q:=q) (ι:=Unit) (aO:=λ_=>aO) (res:=λ_=>res) j f p (e' o) (bX.mono (g.aW (r ⟨n,z,d,a⟩)) λ_ _ _ t=>⟨(),t⟩);exact this.toad.2 n z d a
def ad.iu{y:ar}{args:e s}{f a:s}{a6 bw:e Y}(g:ad q y args h f (a6++bw))(D:iU f a=b aB)(I:V aB)(C:g6 a6.length a=i)(E:d8 a6=i)(B:aD (c h) a6.length=i):ad q y args h a a6:=by
 refine⟨g.1,λM z v t A l r=>g.2 M z v t A l λn N j u w d x=>?_⟩;have p:=m6 D I w;have F:=d.drop (F5 E);have K:eg j (j.cut a6.length):=⟨rfl,λ_ _ _ g=>g,λ_ _ _=>rfl,d.mem,λO o=>o.imp id λ⟨L,J,o⟩=>⟨L,gE J,o⟩⟩
 exact .aK K (r n N _ (u.mono λ_ _ _ g=>g) (p.drop C) F (x.drop (e' B)))
def b3.mk{fn:Func}{j:Nat}{f:s}(d:e Nat)(l:n8 fn.results.toList d F f=b aB)(p:V aB)(q:dj d h=b aO)(o:kN aO=i)(r:eX d=i)(n:∀g,g<j->d[g]?=b g):b3 fn j f aO .ret F h:=by refine⟨.inl a,d,?_⟩;unfold n8 at l;grind
end
def HQ{h:Type}{o:Nat}{A:h}:∀{a:e Nat}{f j:e h},dj a f=b j->o∉a->dj a (f.set o A)=b j
 |[],f,j,d,_=>d
 |p::a,f,j,d,l=>by
  simp only[ef,not_or]at l;simp only[dj,ki]at d⊢;rw[j7 l.1];cases g:f[p]? with
  |none=>simp[g]at d
  |some r=>
   simp only[g]at d⊢;cases n:dj a f with
   |none=>simp[n]at d
   |some q=>rw[HQ n l.2];simp only[n]at d;exact d
def Gu{f:Nat}{g:e Nat}(d:eW f g=m):f∉g:=λa=>by rw[wv a]at d;cases d
def wC:Option (Tmp×E1)->e ResultVar
 |none=>[]
 |some a=>[.tmp a.1]
def GK(a:e C):Option (Tmp×E1)->s
 |none=>.k (.agg a)
 |some d=>.C [.agg a,d.2]
def sE(x:e (Nat×bh))(fn:Func)(y:Nat)(d:s)(h:e Y):dn:=λu t j=>
 (u=.ret∨u=.normal)/\∃a p w f v n g l,∃q:Option (Tmp×E1),(∀r,q=b r->look t r.1=.k r.2)/\fn.results.toList=.cell v n::wC q/\bY x n=b g/\g.agg=i/\c f=g.size/\look t v=ba p 0/\j[p]?=b (.cells w f)/\p∉a /\
  iU (GK f q) (eZ a d)=b l/\V l/\g6 (c a) d=i/\dj a j=b h/\kN h=i/\eX a=i/\(∀o,o<y->a[o]?=b o)
def bG.jB{q:al P}(aG:bT P ag){a7:ar}{fn:Func}{args:e s}{aO:ι->e Y}(bh:P.funcs[a7]?=b fn)(aT:(fn.name== "runtime.NumGoroutine")=m)(N:fn.body=b u)(b1:args.length<=fn.ntmps)(a9:∀d cj,bQ fn.ntmps h d (hh 0 args) cj->aZ h d->∀(j:az) (cm:e Item) (U:e az) (a3:ae->aj->Prop),j.kind≠.early->j.roundOf=k ->
  (∀F af ah au a4,(∃t,sE ag fn (c h) (res t) (aO t) F af ah)->bQ fn.ntmps ah au af a4->aZ ah au->c6 h d ah au->jN q a3 j cm U F a4 au)->cf q a3 (G (j.i cj (.code u::cm)) U) d):bG q a7 args h res aO:=by
 refine⟨⟨fn,bh,aT,by rw[N];rfl⟩,λd z b3 bX a3 U bS=>?_⟩;obtain⟨bY,bV⟩:=bW.get b3;let j:az:={fn:=a7,tmps:=#[],todo:=[],defers:=[],mode:=.run,kind:=.normal,roundOf:=k}
 have H:Frame.enter P a7 z.toArray .normal=j.i {tmps:=z.toArray++Array.replicate (fn.ntmps-z.toArray.size) E,defers:=[]} [.code u]:=by simp[Frame.enter,Frame.i,bh,N,j]
 rw[H];refine a9 d {tmps:=z.toArray++Array.replicate (fn.ntmps-z.toArray.size) E,defers:=[]} ⟨by simp;omega,⟨[],M⟩,λaR=>?_⟩ bX j [] U a3 (by simp[j]) rfl ?_
 .rw[wn];simp only[jG,cN,pF];have:=bV aR;rcases dJ aR (c z) with cl|ck
  .have F:(z.toArray++Array.replicate (fn.ntmps-z.toArray.size) E).getD aR E=(z[aR]?).getD E:=Ck;rw[F];exact this
  rw[u1 x];trivial
 .rintro F af aS f jC ⟨an,X,bb,l,T,aQ,aR,ty,it,aB,r,b5,a0,a1,rR,A',b6,bl,b8,bM,bN,bO,a_,ba,bP,cu⟩ f0 S UT;obtain⟨a',bc⟩:=Hg ba;have D:=f0.aC aR;rw[b6]at D;obtain⟨_,L,dE,O,bf,aU⟩:=D;obtain⟨cp,B,bd,aq,cg,cv⟩:=S.box l _ L bl O;subst bd;cases bf;let b0:Mem:=λy r=>if y=dE then B[r]? else f.n y r;have bw:∀r v,B[r]?=b v->f.a.cell? ⟨dE,r,k⟩=b v:=λr v b2=>by simpa[aJ,aq]using b2
  have aL:∀y r v,f.n y r=b v->b0 y r=b v:=λy r v Z=>by grind
  have aA:∀y r v,b0 y r=b v->f.a.cell? ⟨y,r,k⟩=b v:=λy r v Z=>by
   by_cases F:y=dE
   .grind
   simp only[b0,F,cr]at Z;exact S.mem y r v Z
  obtain⟨W,br⟩:=S.bQ (b0:=b0) (a5:=f.a) (dN:=.t) (b7:=⟨.pointer (b ⟨dE,0,k⟩),[]⟩) bl O rfl (bE _) (λ_ _ _=>rfl) (λy _ bA r=>by grind) aL aA Q rfl rfl rfl M
  have aw:eg f ⟨f.m.set l ⟨.pointer (b ⟨dE,0,k⟩),[]⟩,b0,f.a,f.own⟩:=⟨rfl,aL,λy bA r=>by
   have:y≠dE:=by rintro rfl;exact bA _ (bZ O) Q
   simp only[b0,this,cr],aA,λy bA=>by grind⟩
  have bK:bQ fn.ntmps (aS.set l .t) ⟨f.m.set l ⟨.pointer (b ⟨dE,0,k⟩),[]⟩,b0,f.a,f.own⟩ af jC:=⟨f0.size,f0.defers.imp λ_ bL=>bL.mono br.ext,λR=>(f0.aC R).mono br.ext S.len⟩
  have ai:=HQ (A:=Y.t) a_ b8;have aV:bJ (aS.set l .t) ⟨f.m.set l ⟨.pointer (b ⟨dE,0,k⟩),[]⟩,b0,f.a,f.own⟩ B aQ:=cg.mono br.ext S.len;have b':=UT.trans (br.tolU S);let bt:I:=match r with|none=>.agg B.toArray|some bk=>.tuple #[.agg B.toArray,jC.tmps.getD bk.1 E]
  have cd:∀K,(∀j r R,b0 j r=b R->K.cell? ⟨j,r,k⟩=b R)->(results fn jC.tmps).run P K=.ok bt K/\∀F∈(results fn jC.tmps).events P K #[],∃j r R,F=⟨.cell ⟨j,r,k⟩,m,m⟩/\b0 j r=b R:=by
   intro K aY;have bz:=aG ty it a1;have aN:c B=it.size:=by rw[cg.cr,A']
   have ay:∀t v,B[t]?=b v->K.cell? ⟨dE,0+t,k⟩=b v:=λt v w=>aY _ _ _ J;have aF:=run_loadCells_list (P:=P) K ⟨dE,0,k⟩ B (λt v w=>by rw[gg];exact ay t v w);rw[aN]at aF;have aK:(loadVar ty ⟨dE,0,k⟩).run P K=.ok (.agg B.toArray) K:=by simp only[loadVar,cn,bz.d',cM,rR];simp[bz.aU,aF]
   have a:fn.results=(ResultVar.cell aR ty::wC r).toArray:=by apply qL;simpa using a0
   have cc:asAddr (jC.tmps[aR]?.getD E)=(pure ⟨dE,0,k⟩:Sem Addr):=by rw[<-gJ,aU];rfl
   refine⟨by cases r<;>simp[results,a,cc,aK,bt,wC],λF X=>?_⟩;have bg:F∈(loadVar ty ⟨dE,0,k⟩).events P K #[]:=by cases r<;>simpa[results,a,cc,aK,wC]using X
   obtain⟨t,w,rfl⟩:=mY bz (K:=K) (p:=c B) (λt w=>⟨_,ay t B[t] (bu w)⟩) (by rw[rR,aN];simp) F bg;exact⟨dE,0+t,B[t],rfl,by grind⟩
  have fin:∀(o:az) g,cL (⟨f.m.set l ⟨.pointer (b ⟨dE,0,k⟩),[]⟩,b0,f.a,f.own⟩:aj) g->o.fn=a7->o.tmps=jC.tmps->o.defers=jC.defers->o.mode=.returning->o.kind=.normal->cf q a3 (G o U) g:=by
   intro o g n bD bF bH a6 bI;have a8:=bK.rely n W;have a2:=W.rely n;have ad:=b'.trans n.aH;have b9:bo (aS.set l .t) g bt (GK aQ r):=by
    have aM:=aV.mono n.aH.ext W.len;cases r with
    |none=>exact⟨B,rfl,aM⟩
    |some bk=>
     have bj:=a8.aC bk.1;rw[b5 bk rfl]at bj;exact⟨[.agg B.toArray,jC.tmps.getD bk.1 E],rfl,⟨B,rfl,aM⟩,bj,M⟩
   obtain⟨ak,bs⟩:=ue (iT:=g.m) ai a2.len;have b_:=(m6 bM bN b9).sub ai bs bO;obtain⟨cq,bC⟩:=kP ai;obtain⟨d1,d2⟩:=kP bs;have bB:∀L∈ak,L∈g.m:=Bm bs;have aC:aZ (aO an) {g with m:=ak}:=by obtain⟨V,_⟩:=a2.sub ai bs a' bP;refine⟨V.mem,V.len,λt bq L ao O=>?_,V.aL,V.lt,λj N=>⟨(a2.own j N).1,λL O=>(a2.own j N).2 L (bB L O)⟩⟩;exact ek.plain (h:=aO an) (d:={g with m:=ak,own:=mn g ak}) (au:={g with m:=ak}) rfl rfl (t1 a' bq (bZ ao)) (V.box t bq L ao O)
   have bm:c6 h d (aO an) {g with m:=ak}:=by refine⟨ad.size,ad.aG,ad.mem,ad.ba,λL O j N=>ad.bp _ (bB L O) j N,λl bq L ao O=>?_,ad.os,ad.tape,ad.output,ad.own⟩;have bY:l<c h:=(cD.1 ao).1;obtain⟨dN,b7,cw,cx,h2⟩:=ad.box l bq L ao O;grind
   obtain⟨b4,aH⟩:=a8.defers;refine yu b4 o g _ a2.dG J a6 (by rw[bH];exact aH.gw a2) λab C=>?_;have bx:cL {g with m:=ak} {ab with m:=ak}:=by
    refine⟨rfl,C.n,C.own,C.size,λj N=>C.aG j (N.imp id ?_),C.mem,C.os,C.tape,C.output⟩;rintro⟨L,O,N⟩;obtain⟨t,w,rfl⟩:=ft O;have aE:t<c bb:=by rw[<-d1];exact w
    obtain⟨cy,bp,cb⟩:=d2 t _ (bu aE);obtain⟨A,ca,bn⟩:=bC t _ (bu aE);rw[bu w]at bp;cases bp;refine⟨_,_,cb,λbU=>?_,N⟩;rw[aH.eN _ bU]at bn;cases bn;exact tP bc _ (bZ ca) rfl
   have bR:eg ab {ab with m:=ak}:=⟨rfl,λ_ _ _ a9=>a9,λ_ _ _=>rfl,λj r v Z=>C.mem j r v (by rw[<-C.n];exact Z),λj N=>N.imp id λ⟨L,O,N⟩=>⟨L,by rw[C.m];exact bB L O,N⟩⟩
   have ax:g.n=b0:=n.n;refine .aK bR (bS an _ bt _ ⟨bD,a6,rfl,bI,fn,by grind,λK aY=>?_⟩ (b_.mono bx.aH.ext aC.len) (aC.rely bx) (bm.trans bx.aH));show(results fn o.tmps).run P K=_/\∀F∈(results fn o.tmps).events P K #[],_;rw[bF];have aP:∀j r R,b0 j r=b R->K.cell? ⟨j,r,k⟩=b R:=λj r R a9=>aY j r R (by show ab.n j r=b R;rw[C.n,ax];exact a9);refine⟨(cd K aP).1,λF X=>?_⟩;obtain⟨j,r,R,a0,a1⟩:=(cd K aP).2 F X;exact⟨j,r,R,a0,by show ab.n j r=b R;rw[C.n,ax];exact a1⟩
  rcases X with rfl|rfl
  .intro pre;exact .aK aw (.ctl W rfl (λ_=>Bp rfl) λg n=>fin _ g n rfl rfl (iJ _) rfl rfl)
  exact .aK aw (.ctl W rfl (λ_=>Bn rfl) λg n=>fin _ g n rfl rfl (iJ _) rfl rfl)
def bG.c5{q:al P}(aG:bT P ag){j:ar}{fn:Func}{args:e s}{aO:ι->e Y}(t:P.funcs[j]?=b fn)(r:(fn.name== "runtime.NumGoroutine")=m)(w:fn.body=b u)(D:aD args.length fn.ntmps=i)(E:jA args h->g q fn.ntmps (λC x l=>∃v,sE ag fn h.length (res v) (aO v) C x l) [.code u] .normal (hh 0 args) h):bG q j args h res aO:=by refine⟨⟨fn,t,r,by rw[w];rfl⟩,λf z d a=>?_⟩;have:=bG.jB (q:=q) (aO:=aO) (res:=res) aG t r w (e' D) λJ A j o B F n y p _ I=>(show bX q fn.ntmps u _ (hh 0 args) h from g.aW (E ⟨f,z,d,a⟩)) J A j o B F n y p I;exact this.2 f z d a
def bJ.set{f:e Y}{l:aj}{n:C}{o:I}:∀{z:e I}{a:e C}{j:Nat},bJ f l z a->z[j]?=b o->ck f l o n->bJ f l z (a.set j n)
 |[],[],_,_,d,_=>by grind
 |[],_::_,_,d,_,_=>d.elim
 |_::_,[],_,d,_,_=>d.elim
 |q::z,p::a,0,d,g,h=>by simp at g;subst g;exact⟨h,d.2⟩
 |q::z,p::a,j+1,d,g,h=>⟨d.1,bJ.set d.2 J h⟩
section
variable {q:al P}
def g.cP(l w:Nat)(r o:Nat)(d:Nat->e D){dS:ab}{j:e C}{fJ:Nat}{y:Nat->e D}(K:cH l h=b (.cells dS j))(I:cH w j=b (.c (.M i fJ 0 y)))(M:g q B a7 (.code u::ax) .normal F ((h++[Y.q r o 0 d]).set l (.cells dS (j.set w (.q (c h) o 0 d))))):g q B a7 (.code u::ax) .normal F h:=by
 refine g.aK (λf aC R bc=>?_) M;have ao:=dL K;have ad:=dL I;have G:l<c h:=(cD.1 ao).1;have ak:l<c f.m:=fk;have N:=bu ak;generalize f.m[l]=L at N;obtain⟨A,z,ay,af,V,X⟩:=bc.box l _ L ao N;obtain⟨n,ae,Z⟩:=V.get ad;have p:Rd f.n n (.M i o 0 d):=(Rd.fD (o:=fJ) (fJ:=o) (.inr a) Z).b9 λU ai=>by omega
 have au:ek (h++[Y.q r o 0 d]) {f with m:=f.m++[⟨n,[]⟩]} (.q r o 0 d) ⟨n,[]⟩:=⟨p.dU,.inl ⟨⟨rfl,rfl⟩,p⟩⟩;obtain⟨H,S⟩:=bc.bL (.refl _ _) rfl bc au Q
 have aA:(h++[Y.q r o 0 d])[l]?=b (.cells dS j):=J;have ar:(f.m++[(⟨n,[]⟩:Loc)])[l]?=b L:=J;have al:(f.m++[(⟨n,[]⟩:Loc)]).set l L=f.m++[⟨n,[]⟩]:=kT;have az:fL (.cells dS j) L (.cells dS (j.set w (.q (c h) o 0 d))) L:=rfl;have aB:c h≠l:=x;have ah:ek ((h++[Y.q r o 0 d]).set l (.cells dS (j.set w (.q (c h) o 0 d)))) ⟨(f.m++[(⟨n,[]⟩:Loc)]).set l L,f.n,f.a,f.own⟩ (.cells dS (j.set w (.q (c h) o 0 d))) L:=by
  rw[al];refine⟨A,z,ay,af,?_,X⟩;have E:ey (h++[Y.q r o 0 d]) {f with m:=f.m++[⟨n,[]⟩]} ((h++[Y.q r o 0 d]).set l (.cells dS (j.set w (.q (c h) o 0 d)))) {f with m:=f.m++[⟨n,[]⟩]}:=by
   refine⟨λ_ _ _ v=>v,λU bR b7 T iQ=>?_⟩;by_cases aE:l=U
   .grind
   exact xC
  have ag:bJ (h++[Y.q r o 0 d]) {f with m:=f.m++[⟨n,[]⟩]} z j:=V.mono S.ext bc.len;refine bJ.set (ag.mono E H.len) ae ?_;refine⟨p.dU,by simp,λW aj an dU v=>?_⟩;rw[j7 x,gK x,Nat.sub_self]at v;cases v;refine⟨bE _,λ_=>⟨⟨n,[]⟩,?_,a⟩⟩;exact sn
 obtain⟨aq,O⟩:=H.bQ (b0:=f.n) (a5:=f.a) (b7:=L) aA ar az (bE _) (λ_ _ _=>rfl) (λ_ _ _ _=>rfl) (λ_ _ _ v=>v) bc.mem (λA s=>⟨.inl s,bc.lt L (bZ N) A s⟩) rfl rfl rfl ah;have t:=S.trans O;exact⟨⟨(f.m++[(⟨n,[]⟩:Loc)]).set l L,f.n,f.a,f.own⟩,a,⟨R.size,R.defers.imp λ_ p=>p.mono t.ext,λaw=>(R.aC aw).mono t.ext bc.len⟩,aq,t⟩
end
section
variable {q:al P}
def g.hh(j:Nat)(T o:Nat)(dh:Nat->e D){p:Nat}{a:Nat->e D}(w:look F j=aL (.M i p 0 a))(r:g q B a7 (.code u::ax) .normal ((j,dR (c h) (.M 0 o 0 0))::F) (h++[.A T o 0 dh])):g q B a7 (.code u::ax) .normal F h:=by
 refine g.aK (λs x d bc=>?_) r;have ac:=d.aC j;rw[w]at ac;obtain⟨v,l⟩:=bc.bL (bR:=.A T o 0 dh) (L:=⟨.slice k 0 0,[]⟩) (.refl _ _) rfl bc (.inl ⟨rfl,rfl⟩) Q;refine⟨{s with m:=s.m++[⟨.slice k 0 0,[]⟩]},rfl,⟨d.size,d.defers.imp λ_ n=>n.mono l.ext,λt=>?_⟩,v,l⟩;simp only[look];cases f:aa j t with
 |false=>exact(d.aC t).mono l.ext bc.len
 |true=>
  exact JL
def g.fp(l r:Nat)(T n:Nat)(d:Nat->e D){dS:ab}{f:e C}{I:Nat}{t:Nat->e D}(E:cH l h=b (.cells dS f))(A:cH r f=b (.c (.M i I 0 t)))(K:g q B a7 (.code u::ax) .normal F ((h++[Y.A T n 0 d]).set l (.cells dS (f.set r (.ak (c h) (.M 0 n 0 0)))))):g q B a7 (.code u::ax) .normal F h:=by
 refine g.aK (λj au O bc=>?_) K;have ao:=dL E;have W:=dL A;have H:l<c h:=(cD.1 ao).1;have ag:l<c j.m:=fk;have N:=bu ag;generalize j.m[l]=L at N;obtain⟨v,z,al,Z,S,U⟩:=bc.box l _ L ao N;obtain⟨ay,X,V⟩:=S.get W;let o:Loc:=⟨.slice k 0 0,[]⟩
 obtain⟨R,G⟩:=bc.bL (bR:=.A T n 0 d) (L:=o) (.refl _ _) rfl bc (.inl ⟨rfl,rfl⟩) J;have s:(h++[Y.A T n 0 d])[l]?=b (.cells dS f):=J;have ai:(j.m++[o])[l]?=b L:=J;have ah:(j.m++[o]).set l L=j.m++[o]:=kT;have an:fL (.cells dS f) L (.cells dS (f.set r (.ak (c h) (.M 0 n 0 0)))) L:=rfl;have af:ek ((h++[Y.A T n 0 d]).set l (.cells dS (f.set r (.ak (c h) (.M 0 n 0 0))))) ⟨(j.m++[o]).set l L,j.n,j.a,j.own⟩ (.cells dS (f.set r (.ak (c h) (.M 0 n 0 0)))) L:=by
  rw[ah];refine⟨v,z,al,Z,?_,U⟩;have w:ey (h++[Y.A T n 0 d]) {j with m:=j.m++[o]} ((h++[Y.A T n 0 d]).set l (.cells dS (f.set r (.ak (c h) (.M 0 n 0 0))))) {j with m:=j.m++[o]}:=by
   refine⟨λ_ _ _ x=>x,λae bR L ar ak=>?_⟩;by_cases aw:l=ae
   .grind
   exact⟨bR,L,by grind,ak,.refl _ _⟩
  have ad:bJ (h++[Y.A T n 0 d]) {j with m:=j.m++[o]} z f:=S.mono G.ext bc.len;exact bJ.set (ad.mono w R.len) X (AI (T:=T) (es:=d) V J (by simp[<-bc.len,o]))
 obtain⟨aq,M⟩:=R.bQ (b0:=j.n) (a5:=j.a) (b7:=L) s ai an (bE _) (λ_ _ _=>rfl) (λ_ _ _ _=>rfl) (λ_ _ _ x=>x) bc.mem (λv Q=>⟨.inl Q,bc.lt L (bZ N) v Q⟩) rfl rfl rfl af;have p:=G.trans M;exact⟨⟨(j.m++[o]).set l L,j.n,j.a,j.own⟩,a,⟨O.size,O.defers.imp λ_ y=>y.mono p.ext,λaj=>(O.aC aj).mono p.ext bc.len⟩,aq,p⟩
end
def kn:Nat->(Nat->e D)->Nat->e D
 |0,a=>a
 |d+1,a=>gR (d+1) a
def wD(d:Nat)(a:Nat->e D)(f:Nat):kn d a f=a (d+f):=by cases d<;>simp[kn,gR]
def vA(j h n:Nat)(d:Nat->e D)(a:C):Option (C×e Prop):=match jP j a with
 |true=>b (a,[])
 |false=>match a with
  |.ak g (.M p f o l)=>match aa g j,aa f h with
   |true,i=>b (.c (.M m h l (kn o d)),[p=n,o+l<=n])
   |_,_=>k
  |_=>k
def vC(h g j:Nat)(a:Nat->e D):e C->Option (e C×e Prop)
 |[]=>b ([],[])
 |l::p=>match vA h g j a l with
  |some (d,n)=>match vC h g j a p with
   |some (f,o)=>b (d::f,gh n o)
   |none=>k
  |none=>k
def te(j h l:Nat)(d:Nat->e D):E1->Option (E1×e Prop)
 |.S f=>match vA j h l d f with|some (f,g)=>b (.S f,g)|none=>k
 |.agg a=>match vC j h l d a with|some (a,g)=>b (.agg a,g)|none=>k
def vB(h g j:Nat)(a:Nat->e D):e E1->Option (e E1×e Prop)
 |[]=>b ([],[])
 |l::p=>match te h g j a l with
  |some (d,n)=>match vB h g j a p with
   |some (f,o)=>b (d::f,gh n o)
   |none=>k
  |none=>k
def td(h g j:Nat)(a:Nat->e D):s->Option (s×e Prop)
 |.k f=>match te h g j a f with|some (f,d)=>b (.k f,d)|none=>k
 |.C O=>match vB h g j a O with|some (O,d)=>b (.C O,d)|none=>k
 |.any=>b (.any,[])
section
variable {a6:e Y}{cv:aj}{T o:Nat}
structure lM(a6:e Y)(T o p:Nat)(es:Nat->e D)(d cv:aj):Prop where
 aG:∀ai t,ck (a6++[.A T o p es]) d ai t->jP a6.length t=i->ck a6 cv ai t
 eK:∀ai fJ r a2,ck (a6++[.A T o p es]) d ai (.ak a6.length (.M p fJ r a2))->fJ=o->r+a2<=p->Rd cv.n ai (.M m o a2 (kn r es))
def lM.cj(s:lM a6 T o p es d cv){n:I}{t j:C}{l:e Prop}(h:vA a6.length o p es t=b (j,l))(w:V l)(v:ck (a6++[.A T o p es]) d n t):ck a6 cv n j:=by
 unfold vA at h;split at h
 .rename_i u;cases h;exact s.aG n t v u
 split at h
 .rename_i y X x r z _;split at h
  .rename_i f g;cases h;have f:=c1 f;have g:=c1 g;subst f g;obtain⟨rfl,q⟩:X=p/\r+z<=p:=w;exact s.eK n _ _ _ v a q
  grind
 grind
def lM.e3(n:lM a6 T o p es d cv):∀{z:e I}{f a:e C}{g:e Prop},vC a6.length o p es f=b (a,g)->V g->bJ (a6++[.A T o p es]) d z f->bJ a6 cv z a
 |[],[],_,_,h,_,_=>by cases h;trivial
 |[],_::_,_,_,_,_,j=>j.elim
 |_::_,[],_,_,_,_,j=>j.elim
 |v::z,s::f,a,g,h,l,j=>by
  simp only[vC]at h;split at h
  .rename_i q t b8;split at h
   .rename_i r u cY;cases h;rw[V.W]at l;exact⟨n.cj b8 l.1 j.1,n.e3 cY l.2 j.2⟩
   grind
  grind
def lM.k(j:lM a6 T o p es d cv){f h:E1}(a:te a6.length o p es f=b (h,aB))(g:V aB)(l:eh (a6++[.A T o p es]) d ai f):eh a6 cv ai h:=by
 cases f with
 |S t=>
  simp only[te]at a;split at a
  .rename_i e s b8;cases a;exact j.cj b8 g l
  grind
 |agg n=>
  simp only[te]at a;split at a
  .rename_i e s b8;cases a;obtain⟨z,r,q⟩:=l;exact⟨z,r,j.e3 b8 g q⟩
  grind
def lM.gJ(n:lM a6 T o p es d cv):∀{z:e I}{f a:e E1}{g:e Prop},vB a6.length o p es f=b (a,g)->V g->eJ (a6++[.A T o p es]) d z f->eJ a6 cv z a
 |[],[],_,_,h,_,_=>by cases h;trivial
 |[],_::_,_,_,_,_,j=>j.elim
 |_::_,[],_,_,_,_,j=>j.elim
 |v::z,s::f,a,g,h,l,j=>by
  simp only[vB]at h;split at h
  .rename_i q t b8;split at h
   .rename_i r u cY;cases h;rw[V.W]at l;exact⟨n.k b8 l.1 j.1,n.gJ cY l.2 j.2⟩
   grind
  grind
def lM.cD(j:lM a6 T o p es d cv){e h:s}(a:td a6.length o p es e=b (h,aB))(g:V aB)(l:bo (a6++[.A T o p es]) d ai e):bo a6 cv ai h:=by
 cases e with
 |k e=>
  simp only[td]at a;split at a
  .rename_i f r b8;cases a;exact j.k b8 g l
  grind
 |C O=>
  simp only[td]at a;split at a
  .rename_i f r b8;cases a;obtain⟨z,q,n⟩:=l;exact⟨z,q,j.gJ b8 g n⟩
  grind
 |any=>cases a;trivial
def aZ.eK(n:aZ (a6++[.A T o p es]) d)(D:jj a6.length a6=i):
  ∃y:aj,aZ a6 y/\eg d y/\lM a6 T o p es d y/\∀{u:e Y} {R:aj},c6 u R (a6++[.A T o p es]) d->u.length<=a6.length->c6 u R a6 y:=by
 have ao:(a6++[Y.A T o p es])[a6.length]?=b (.A T o p es):=Q;have H:c d.m=a6.length+1:=by rw[n.len];simp
 have W:d.m[a6.length]?=b d.m[a6.length]:=bu x;generalize d.m[a6.length]=L at W;have aL:=n.box _ _ L ao W;obtain⟨b0,ar,s,al,aE⟩:∃b0:Mem,(∀l f j,d.n l f=b j->b0 l f=b j)/\(∀l,l∉L.V->∀f,b0 l f=d.n l f)/\(∀l f j,b0 l f=b j->d.a.cell? ⟨l,f,k⟩=b j) /\
   (∀j g f B,ck (a6++[.A T o p es]) d j (.ak a6.length (.M p g f B))->g=o->f+B<=p->Rd b0 j (.M m o B (kn f es))):=by
  rcases aL with⟨rfl,rfl⟩|⟨l,ab,z,aO,rfl,ag,aR,h,aP,an,aH⟩
  .refine⟨d.n,λ_ _ _ aG=>aG,λ_ _ _=>rfl,n.mem,λj g f B O I ae=>?_⟩;obtain⟨af,⟨ax,Z,S,ab,K,U,ad,aC,C,aq⟩,_,au⟩:=O;grind[Rd.cZ]
  let b0:Mem:=λt f=>if t=l then z[f]? else d.n t f;have aw:∀t f j,d.n t f=b j->b0 t f=b j:=λt f j K=>by grind
  refine⟨b0,aw,λt aQ f=>J,λt f j K=>?_,λj g f B O I ae=>?_⟩
  .by_cases I:t=l
   .subst I;simp only[b0,cN]at K;simp only[aJ,ag];grind
   simp only[b0,I,cr]at K;exact n.mem t f j K
  subst I;obtain⟨af,⟨ax,Z,S,aF,K,U,ad,aC,C,aq⟩,_,au⟩:=O;obtain⟨b7,X,ay⟩:=(au _ _ _ _ ao).2 rfl;rw[W]at X;cases X;rw[C]at ay;cases ay;rw[K];have az:∀r,r<B->∀w F,(kn f es r)[w]?=b F->∃ak,z[(f+r)*g+w]?=b ak/\Rd d.n ak F:=λr v w F q=>by rw[wD]at q;exact an.rd (f+r) x w F q
  refine .M l (f*g) (λr w=>(z[(f+r)*g+w]?).getD E) U x Q (λr v=>by rw[wD];exact an.bo _ x) (λaK=>J) (λr v w F q=>J) (λr v w F q=>?_);obtain⟨ak,aB,aA⟩:=az r v w F q;rw[aB];exact aA.mono aw
 have aM:(a6++[Y.A T o p es]).set a6.length .t=a6++[.t]:=Q;obtain⟨G,N⟩:=n.bQ (b0:=b0) (a5:=d.a) (dN:=.t) (b7:=⟨L.v,[]⟩) ao W M (bE _) (λ_ _ _=>rfl) (λl _ A f=>s l A f) ar al Q rfl rfl rfl M;rw[aM]at G N;have ah:=G.drop (bw:=[.t]) D;refine⟨_,ah,⟨a,ar,λl A f=>s l (A L (bZ W)) f,al,λl A=>?_⟩,⟨λj ax O aN=>?_,λj g f B O I ae=>aE j g f B O I ae⟩,λ{u R} ai V=>(ai.trans (N.tolU n)).drop (bw:=[.t]) V⟩
 .rcases A with A|⟨b7,X,A⟩
  .exact .inl A
  have:=gE X;grind
 exact(O.mono N.ext n.len).drop (bw:=[.t]) aN
end
def bG.fU{B:al P}{E:ar}{args:e s}{C:ι->s}{a6:ι->e Y}{T o:Nat}{p:ι->Nat}{es:ι->Nat->e D}(F:bG B E args h res (λa=>a6 a++[.A T o (p a) (es a)])){j:ι->e Prop}(N:∀a,td (c (a6 a)) o (p a) (es a) (res a)=b (C a,j a))(M:∀a,V (j a))(K:∀a,jj (c (a6 a)) (a6 a)=i)(J:∀a,c h<=c (a6 a)):bG B E args h C a6:=by refine⟨F.1,λO z x v I r u=>F.2 O z x v I r λa t R Q w d g A=>?_⟩;obtain⟨y,l,f,n,q⟩:=g.eK (K a);exact .aK f (u a t R y (w.mono f.mem) (n.cD (N a) (M a) d) l (q A (J a)))
def ad.fU{P:aw}{h:al P}{j:ar}{args:e s}{g:e Y}{d a:s}{a6:e Y}{T o p:Nat}{es:Nat->e D}(t:ad h j args g d (a6++[.A T o p es])){f:e Prop}(r:td a6.length o p es d=b (a,f))(q:V f)(n:jj a6.length a6=i)(l:c g<=a6.length):ad h j args g a a6:=
 (bG.fU (ι:=Unit) t.tocm (λ_=>r) (λ_=>q) (λ_=>n) (λ_=>l)).toad
section
def Rb{d:Z}(n:r.op=.call {callee:=.builtin .clear,args:=#[d],argTypes:=#[w]})(a:Z->I):
  W a r=(do pure (.value (<-Builtin.clear_ #[w] r.type #[a d]))):=LP
def W0{f:I}{d:e D}{a2 a:Nat}(o:f.cells.toList.map k5=d.map b)(h:c d=a):ez bi a a2 (λ_=>d) (Builtin.zeroCells f.cells a2).toList:=by
 have n:f.cells.size=a:=by have:=er List.length o;grind
 have u:bJ [] ⟨[],bi,default,λ_=>False⟩ f.cells.toList (d.map C.c):=sC o;refine⟨by simp[Builtin.zeroCells,n],λ_ _=>h,λj g y q B=>?_⟩;have z:y<a:=J;obtain⟨l,w,v⟩:=u.get (y:=y) (t:=C.c q) J;refine⟨l,?_,v⟩;have s:j*a+y<a2*a:=by
  have:j*a+a<=a2*a:=by rw[<-ox];exact gC a g
  omega
 have p:(j*a+y) % a=y:=by grind[Nat.add_mul_mod_self_right,Nat.mod_eq_of_lt]
 have A:y<f.cells.size:=x;have E:f.cells[y]=l:=J;have r:f.cells[y]! = l:=J;simp[Builtin.zeroCells,n,s,p,r]
def aR.ic(aG:bT P ag){I:Z}(aS:r.op=.call {callee:=.builtin .clear,args:=#[I],argTypes:=#[w]}){g:bh}(U:bY ag w=b g)(a:g.desc=.slice T)(R:bY ag T=b bz){d a2:Nat}{s:ab}(ad:η I=dR l (.M p bz.size d a2))(o:h[l]?=b (.A s bz.size p es))(C:d+a2<=p):
  aR P r η h .any (h.set l (.A s bz.size p (se d (d+a2) bz.zero es))):=by
 intro q an n W;have j:=W I;rw[ad]at j;change ck h q (an I) (.ak l _)at j;obtain⟨aU,⟨aw,aO,ay,aQ,Y,aA,aB,aC,aN,aM⟩,_,G⟩:=j;obtain⟨L,N,ai⟩:=(G _ _ _ _ o).2 rfl;rw[aN]at ai;have u:=(aG w g U).eC;rw[a]at u;rw[Rb aS,Y];by_cases V:a2=0
 .subst V;have ae:se d (d+0) bz.zero es=es:=by funext y;simp only[se];grind
  have X:h.set l (.A s bz.size p es)=h:=kT;rw[ae,X];refine⟨.value (.tuple #[]),q,?_,M,n,.refl _ _,?_⟩
  .cases aw<;>simp[Builtin.clear_,run_underlying u]
  intro K E;cases aw<;>simp[Builtin.clear_,run_underlying u,aE]at E
 obtain⟨ax,rfl,rfl⟩:=aM x;rcases n.box l _ L o N with⟨_,rfl⟩|⟨aP,jb,z,e,rfl,O,F,B,aq,au,bg⟩
 .cases ai
 cases ai;obtain⟨aJ,f,ar,aY,aZ,ao,ak,a0,al⟩:=(aG T bz R).cK;have ah:=W0 (bi:=q.n) (a2:=a2) ak al;have a1:(Builtin.zeroCells f.cells a2).toList.length=a2*bz.size:=ah.len;have aH:=au.len;have aT:d*bz.size+a2*bz.size<=p*bz.size:=by rw[<-iL];exact gC _ C
 have v:=au.hr ah C;have S:(λg=>if d<=g/\g<d+a2 then(λ_=>bz.zero) (g-d)else es g)=se d (d+a2) bz.zero es:=rfl;rw[S]at v;obtain⟨aj,t2⟩:=n.gl o N F B aq O v J bg;have az:∀aV∈(Builtin.zeroCells f.cells a2).toList,aV.oneCell'=i:=ah.cell;have af:=run_storeCells_at P ax (d*bz.size) s (Builtin.zeroCells f.cells a2).toList 0 (z++e).toArray q.a O J az;have aL:((z++e).toArray.toList.take (d*bz.size+0)++(Builtin.zeroCells f.cells a2).toList++(z++e).toArray.toList.drop (d*bz.size+0+(Builtin.zeroCells f.cells a2).toList.length))=z.take (d*bz.size)++(Builtin.zeroCells f.cells a2).toList++z.drop (d*bz.size+(Builtin.zeroCells f.cells a2).toList.length)++e:=J;rw[aL]at af;have aK:∀t,(zeroValue T).run P t=.ok f t:=λt=>by simp[zeroValue,typeInfo,ar,ao]
 have H:∀t es,(zeroValue T).events P t es=es:=λt es=>by simp[zeroValue,typeInfo,ar,ao,aE]
 obtain⟨A,rfl⟩:∃A,a2=A+1:=⟨a2-1,by omega⟩
 refine⟨.value (.tuple #[]),_,?_,M,aj,t2,?_⟩
 .simp[Builtin.clear_,run_underlying u,aK,af]
 intro K E;have D:K∈(storeCells ⟨ax,d*bz.size,k⟩ (Builtin.zeroCells f.cells (A+1)).toList).events P q.a #[]:=by simp only[Builtin.clear_,aE,iF,j6]at E;simpa[run_underlying u,aK,H,af]using E
 rcases li (Builtin.zeroCells f.cells (A+1)).toList 0 (z++e).toArray q.a #[] O J az K D with aF|⟨y,_,_,rfl⟩
 .grind
 exact l' (bZ N) Q (bg _)
end
section
variable {q:al P}
theorem g.gY{j:bd}(K:∀f l,bQ B h f F l->aZ h f->∃a:aj,a.a=f.a/\bQ B aO a j l/\aZ aO a/\cA h f aO a)(N:g q B a7 (.ar all bw::ax) .normal j aO):g q B a7 (.ar all bw::ax) .normal F h:=by intro f l M d D w r C idx v e u;obtain⟨a,J,E,z,y⟩:=K f l M d;have A:=y.tolU d;refine .aK (.of d z J A) ?_;exact N a l E z D w r C idx v e λI o x p O s t n=>u I o x p O s t (A.trans n)
def g.fq(j:Nat)(T o:Nat)(dh:Nat->e D){p:Nat}{a:Nat->e D}(v:look F j=aL (.M i p 0 a))(r:g q B a7 (.ar all bw::ax) .normal ((j,dR (c h) (.M 0 o 0 0))::F) (h++[.A T o 0 dh])):g q B a7 (.ar all bw::ax) .normal F h:=by
 refine g.gY (λs w d bc=>?_) r;have ac:=d.aC j;rw[v]at ac;obtain⟨u,l⟩:=bc.bL (bR:=.A T o 0 dh) (L:=⟨.slice k 0 0,[]⟩) (.refl _ _) rfl bc (.inl ⟨rfl,rfl⟩) Q;refine⟨{s with m:=s.m++[⟨.slice k 0 0,[]⟩]},rfl,⟨d.size,d.defers.imp λ_ n=>n.mono l.ext,λt=>?_⟩,u,l⟩;simp only[look];cases f:aa j t with
 |false=>exact(d.aC t).mono l.ext bc.len
 |true=>
  exact JL
def g.eT(aG:bT P ag){u:Z}{f j:Nat}(N:r.op=.binOp .eql w u (.const (.slice k f j)) ty){E:bh}(A:bY ag w=b E)(U:E.desc=.slice T){ew:Bool}{ab:Nat}(C:bA F u=aL (.M ew ab p es))(D:r.guard=k)(G:eU B r.dst=i)(J:∀l:Bool,(l=i->p=0)->g q B a7 (.ar all bw::ax) .normal (fy r.dst (aL (.bool l)) F) h):g q B a7 (.ar all (r::bw)::ax) .normal F h:=by
 refine g.bO (ι:={l:Bool // l=i->p=0}) (λl=>aL (.bool l.1)) (λ_=>h) D G (λn M S y=>?_) λl=>J l.1 l.2;have t:=eO S u;rw[C]at t;obtain⟨d,e,z,t,_,_,_,_,s⟩:=(b2 t).bx;have I:=(aG w E A).eC;rw[U]at I;have R:=b2 (by have:=eO S u;rw[C]at this;exact this);have ad:d.isNone=i->p=0:=by
  intro af;rw[t]at R;cases R with
  |M l O ah ai ae H Y X s x=>
   grind
 refine⟨⟨d.isNone,ad⟩,.value (.bool d.isNone),n,.bool d.isNone,?_,.inl a,Rd.bool,y,.refl _ _,?_⟩
 .have x:(binOp .eql w (.slice d p e) (.slice k f j)).run P n.a=.ok (.bool d.isNone) n.a:=Go.Lib.run_eql_slice_nil n.a w T d p e f j I;have K:∀v,eqGuard .eql w u v (.slice d p e) (.slice k f j)=pure ():=λv=>by simp[eqGuard]
  have o:M.eval (.const (.slice k f j))=.slice k f j:=rfl;simp only[W,N,t,o,K];simp[x]
 have V:∀es,(Op.equal w (.slice d p e) (.slice k f j)).events P n.a es=es:=λes=>by show(aM (9999+1) w _ _).events P n.a es=es;unfold aM;cases d<;>simp[underlying,I]
 have x:(Op.equal w (.slice d p e) (.slice k f j)).run P n.a=.ok d.isNone n.a:=by show(aM (9999+1) w _ _).run P n.a=_;grind[Go.Lib.run_equalIn_slice_nil]
 have K:∀v,eqGuard .eql w u v (.slice d p e) (.slice k f j)=pure ():=λv=>by simp[eqGuard]
 have o:M.eval (.const (.slice k f j))=.slice k f j:=rfl;intro L Q;exfalso;simp only[W,N,t,o,K,binOp]at Q;simp[x,V,aE]at Q
end
def ad.jx{a1:al P}{aH:ar}{cap:Nat}{t:Nat->e D}{ix:e I}(K:ad a1 aH [dR 0 (.M p 1 0 p)] [.A T 1 p es] (.C []) [.A T 1 p t]){fn:Func}(aN:P.funcs[aH]?=b fn)(aP:uq fn.results.toList=i)(bg:c O=p)(bh:0<p)(aK:∀aC,ez aC 1 p es O)(a_:∀aC z,ez aC 1 p t z->z=ix)(ba:∀ay∈ix,dx ay=i)(ab:c ix=p):
  ad a1 aH [ce (cT (.row j cap) p)] [.Q (gH T (.row j cap) O)] (.C []) [.Q (gH T (.row j cap) ix)]:=by
 refine⟨K.1,λaw z x o a9 aF aL=>?_⟩;obtain⟨E,rfl,aQ⟩:∃E,z=[E]/\E=cT (.row j cap) p:=by
  match z,x with
  |[E],x=>exact⟨E,rfl,Rd.aM x.1⟩
 subst aQ;have aB:=o.len;obtain⟨L,F⟩:∃L,aw.m=[L]:=by
  match R:aw.m with
  |[L]=>exact⟨L,rfl⟩
  |[]=>rw[R]at aB;simp at aB
  |_::_::_=>rw[R]at aB;simp at aB
 obtain⟨bd,V,bm,a8,W⟩:=o.box 0 _ L rfl (by rw[F];rfl);obtain⟨aT,bc,a7,s⟩:=gH.lookup V;obtain⟨au,az,aM,aV,_⟩:=V;have y:∀N,N∈L.V↔N=j:=λN=>by rw[a8 N,s N]
 have a6:=bm j _ a7;have aS:j∈L.V:=(y j).2 a;have G:j<aw.a.heap.size:=o.lt L (by rw[F];simp) j aS;let L1:Loc:=⟨.slice (b ⟨j,0,k⟩) 0 cap,[j]⟩
 let u:aj:={aw with m:=[L1]}
 have aO:eg aw u:=⟨rfl,λ_ _ _ K=>K,λ_ _ _=>rfl,o.mem,λN d=>by
  rcases d with d|⟨f,n,d⟩
  .exact .inl d
  .simp only[u,eN]at n;subst n;simp only[L1,eN]at d;subst d;exact .inr ⟨L,by rw[F];simp,aS⟩⟩
 have bb:aZ [.A T 1 p es] u:=by
  refine⟨o.mem,a,λr aU f ao n=>?_,?_,λf n N d=>?_,λN d=>⟨(o.own N d).1,λf n=>?_⟩⟩
  .cases r with
   |zero=>
    cases ao;cases n;exact .inr ⟨j,cap,O,aT,a,a6,by rw[bc];simp,by omega,aV,aK _,λQ=>W j aS Q⟩
   |succ r=>simp at ao
  .intro r B f a0 b8 cY;cases r<;>cases B<;>simp_all[u]
  .simp only[u,eN]at n;subst n;simp only[L1,eN]at d;subst d;exact G
  simp only[u,eN]at n;subst n;have:=(o.own N d).2 L (by rw[F];simp);exact Ky
 have an:bW [.A T 1 p es] u [cT (.row j cap) p] [dR 0 (.M p 1 0 p)]:=by refine⟨⟨L1.v,⟨b ⟨j,0,k⟩,b ⟨j,0,k⟩,cap,cap,rfl,by omega,by omega,aV,rfl,λ_=>⟨j,rfl,by simp⟩⟩,by simp,λa3 bj bk t d=>?_⟩,M⟩;simp only[j6,eA,Y.A.injEq]at d;obtain⟨_,_,rfl,_⟩:=d;exact⟨bE _,λ_=>⟨L1,a,a⟩⟩
 refine .aK aO (K.2 u _ an bb a9 aF λaJ E v af A g l=>?_);have aA:=g.len;obtain⟨f,n⟩:∃f,v.m=[f]:=by
  match R:v.m with
  |[L]=>exact⟨L,rfl⟩
  |[]=>rw[R]at aA;simp at aA
  |_::_::_=>rw[R]at aA;simp at aA
 obtain⟨a2,a4,S,aq,ae⟩:=l.box 0 _ L1 rfl rfl;cases S;rw[n]at aq;cases aq;have aY:f.v=L1.v:=ae.1 a;rcases g.box 0 _ f rfl (by rw[n];rfl)with⟨bf,_⟩|⟨J,aE,a',H,ax,bl,C,ai,ag,U,X⟩
 .omega
 rw[ax]at aY;obtain⟨rfl,rfl⟩:J=j/\aE=cap:=by simpa[L1]using aY
 have aG:=a_ _ _ U;subst aG;have aR:∀ay,ay∈f.V↔ay=J:=λay=>by rw[ax];simp
 let q:aj:={v with m:=[L]}
 have Z:eg v q:=⟨rfl,λ_ _ _ K=>K,λ_ _ _=>rfl,g.mem,λN d=>by
  rcases d with d|⟨w,h,d⟩
  .exact .inl d
  .simp only[q,eN]at h;subst h;exact .inr ⟨f,by rw[n];simp,(aR N).2 ((y N).1 d)⟩⟩
 refine .aK Z (aL aJ E q (af.tmp aN aP g.mem) ?_ ?_ ?_)
 .obtain⟨ws,b8,cY⟩:=A;refine⟨ws,b8,?_⟩;cases ws with
  |nil=>trivial
  |cons=>exact cY.elim
 .refine⟨g.mem,a,λr aU w ao h=>?_,?_,λw h N d=>?_,λN d=>⟨(g.own N d).1,λw h=>?_⟩⟩
  .cases r with
   |zero=>
    cases ao;cases h;refine⟨λN=>if N=J then b (.cells (a'++H).toArray T (0,0))else k,⟨au,ba,by rw[ab];exact ai,ag,H,by rw[C];simp,a⟩,λN Q d=>?_,λN=>?_,λN d Q=>?_⟩
    .by_cases ak:N=J
     .subst ak;simp only[cN]at d;cases d;exact bl
     simp[ak]at d
    .rw[y N];by_cases ak:N=J<;>simp[ak]
    rw[(y N).1 d];exact X Q
   |succ r=>simp at ao
  .intro r B w a5 b8 cY;cases r<;>cases B<;>simp_all[q]
  .simp only[q,eN]at h;subst h;rw[(y N).1 d];exact g.lt f (by rw[n];simp) J ((aR J).2 a)
  simp only[q,eN]at h;subst h;have:=(g.own N d).2 f (by rw[n];simp);exactλak=>this ((aR N).2 ((y N).1 ak))
 refine⟨l.size,l.aG,l.mem,λN d ah Q=>l.ba N d (λw h=>?_) Q,λw h N d=>?_,λr aU w ao h=>?_,l.os,l.tape,l.output,l.own⟩
 .simp only[u,eN]at h;subst h;have:=ah L (by rw[F];simp);exact Ky
 .simp only[q,eN]at h;subst h;exact .inr ⟨w,by rw[F];simp,d⟩
 cases r with
 |zero=>
  rw[F]at h;cases ao;cases h;exact⟨_,L,a,a,a⟩
 |succ r=>simp at ao
def AK{a o:Type}{ac:a->o}:∀{g:e a},(g.map ac).Nodup->∀{d f:a},d∈g->f∈g->ac d=ac f->d=f
 |[],_,_,_,r,_,_=>by grind
 |t::s,l,d,f,p,q,n=>by
  simp only[oB,u9]at l;rcases ef.1 p with j|j<;>rcases ef.1 q with h|h
  .grind
  .grind
  .grind
  exact AK l.2 j h n
def tJ:∀{U l:e (e UInt8)},U.Nodup->(∀a∈U,a∈l)->c U<=c l
 |[],_,_,_=>jG _
 |a::U,l,f,d=>by rw[u9]at f;have j:=d a iH;have:=tJ (l:=l.erase a) f.2 λh g=>(List.mem_erase_of_ne J).2 (d h (k2 _ g));grind
def rI{bR:Y}{a:e Y}(f:bR≠.a2)(d:jq a=i):jq (bR::a)=i:=by cases bR<;>first|exact d|grind
section
variable {q:al P}
def g.bC{aq p:dn}(j:∀n d f,aq n d f->p n d f):∀{ax:e dz}{n:Exit}{d:bd}{f:e Y},g q B aq ax n d f->g q B p ax n d f
 |[],n,d,f,a=>j n d f a
 |.code o::ax,.normal,d,f,a=>bX.mono a λ_ _ _ a=>g.bC j a
 |.code o::ax,.exit _,d,f,a=>g.bC (ax:=ax) j a
 |.code o::ax,.ret,d,f,a=>g.bC (ax:=ax) j a
 |.code o::ax,.panic _,d,f,a=>g.bC (ax:=ax) j a
 |.code o::ax,.goto _,d,f,a=>g.bC (ax:=ax) j a
 |.code o::ax,.outgrown,d,f,a=>g.bC (ax:=ax) j a
 |.blk id::ax,.exit r,d,f,a=>by
  simp only[g]at a⊢;split
  .rename_i n;rw[bF n]at a;exact g.bC (ax:=ax) j a
  rename_i n;rw[bp n]at a;exact g.bC (ax:=ax) j a
 |.blk id::ax,.normal,d,f,a=>g.bC (ax:=ax) j a
 |.blk id::ax,.ret,d,f,a=>g.bC (ax:=ax) j a
 |.blk id::ax,.panic _,d,f,a=>g.bC (ax:=ax) j a
 |.blk id::ax,.goto _,d,f,a=>g.bC (ax:=ax) j a
 |.blk id::ax,.outgrown,d,f,a=>g.bC (ax:=ax) j a
 |.ar l h::ax,.normal,d,f,a=>e1.mono a λ_ _ a=>g.bC j a
 |.ar l h::ax,.exit _,d,f,a=>g.bC (ax:=ax) j a
 |.ar l h::ax,.ret,d,f,a=>g.bC (ax:=ax) j a
 |.ar l h::ax,.panic _,d,f,a=>g.bC (ax:=ax) j a
 |.ar l h::ax,.goto _,d,f,a=>g.bC (ax:=ax) j a
 |.ar l h::ax,.outgrown,d,f,a=>g.bC (ax:=ax) j a
def g.fi{id:Nat}{C:bd->e Y->Prop}{f l j:e dz}(a:hU id f=k)(d:hU id l=b j)(r:g q B a7 j .normal F h):
  g q B (uo C (g q B a7 l)) (.code (.exit id)::f) .normal F h:=
 g.bC (λp n o s=>by cases p<;>exact s) (g.a_ (q:=q) (B:=B) (x6:=a7) (C:=C) (F:=F) (h:=h) a d r)
end
def fs(O:e UInt8):e I:=O.map λa=>.int .u8 a.toNat
theorem IL{O:e UInt8}:c (fs O)=c O:=by simp[fs]
def Wz{O a:e UInt8}:fs (O++a)=fs O++fs a:=by simp[fs]
def iN(d:Option (Nat×Nat))(f:Nat):I:=match d with|none=>.slice k 0 0|some (e,a)=>.slice (b ⟨e,0,k⟩) f a
def ep(r q:ab)(s:Bool)(h:I)(l:Option (Nat×Nat))(O:e UInt8)(o:Nat):I->(Nat->Option Obj)->Prop:=λp d=>
 ∃g,p=.pointer (b ⟨g,0,k⟩)/\dx h=i/\d g=b (.cells #[if s then p else .pointer k,h] r (0,0)) /\
 match l with
 |none=>O=[]/\∀f,(d f).isSome=i↔f=g
 |some (n,a)=>n≠g/\c O<=a/\0<a/\a<=9223372036854775807/\o<=c O/\(∃j,c (fs O++j)=a/\d n=b (.cells (fs O++j).toArray q (0,o)))/\∀f,(d f).isSome=i↔f=g∨f=n
section
variable {q:al P}{o:e (Nat×bh)}{ag:ab}{t:Bool}{v1:I}{b':Option (Nat×Nat)}{O:e UInt8}{ac:Nat}
structure lL(P:aw)(h:e Y)(d:aj)(l:Nat)(ag T:ab)(t:Bool)(v1:I)(b':Option (Nat×Nat))(O:e UInt8)(ac:Nat)(L:Loc)(j:Nat)(cm:Nat->Option Obj):Prop where
 m:d.m[l]?=b L
 v:L.v=.pointer (b ⟨j,0,k⟩)
 fJ:ep ag T t v1 b' O ac L.v cm
 heap:∀(j:Nat) (r:Obj),cm j=b r->d.a.heap[j]?=b r
 V:∀j,j∈L.V↔(cm j).isSome=i
 n:∀j∈L.V,∀r,d.n j r=k
 cm:cm j=b (.cells #[if t then L.v else .pointer k,v1] ag (0,0))
 cell:dx v1=i
def ep.row(bc:aZ h d)(n:h[l]?=b (.Q (ep ag T t v1 b' O ac))):∃L e a,lL P h d l ag T t v1 b' O ac L e a:=by have p:l<c d.m:=fk;have f:=bu p;generalize d.m[l]=L at f;obtain⟨a,o,g,j,s⟩:=bc.box l _ L n f;have q:=o;obtain⟨e,r,u,v,_⟩:=q;exact⟨L,e,a,f,r,o,g,j,s,v,u⟩
def lL.mem{L:Loc}(a:lL P h d l ag T t v1 b' O ac L j eb):j∈L.V:=(a.V j).2 (by rw[a.cm];rfl)
def lL.ptr{L:Loc}(f:lL P h d l ag T t v1 b' O ac L j eb)(g:bo h d ai (ba l off)):ai=.pointer (b ⟨j,off,k⟩):=by obtain⟨_,n,o,a,e,rfl⟩:=(g:ck h d ai (.ptr l off));rw[f.m]at a;cases a;rw[f.v]at e;grind
def yA(aG:bT P o){q:Z}{n:bh}(x:r.op=.load w q)(j:bY o w=b n)(D:n.agg=m)(F:h[l]?=b (.Q (ep ag T t v1 b' O ac))){v:s}(K:η q=ba l off)(C:∀a L d e,aZ h a->lL P h a l ag T t v1 b' O ac L d e->∃g,(#[if t then L.v else .pointer k,v1]:Array I)[off]?=b g/\bo h a g v):aR P r η h v h:=by
 refine .di λa E B H=>?_;obtain⟨L,d,e,f⟩:=ep.row (P:=P) B F;have A:=f.ptr (by have:=H q;rwa [K]at this);obtain⟨g,U,S⟩:=C a L d e B f;have N:a.a.cell? ⟨d,off,k⟩=b g:=by simp only[aJ,f.heap _ _ f.cm];grind
 have u:(loadVar w ⟨d,off,k⟩).run P a.a=.ok g a.a:=by simp[loadVar,(aG w n j).d',D,run_load,N]
 refine⟨g,by simp[W,x,A,Instr.loadAt,aU,u],S,λz y=>?_⟩;have R:z∈(loadVar w ⟨d,off,k⟩).events P a.a #[]:=by
  have M:W E r=(do pure (.value (<-loadVar w ⟨d,off,k⟩))):=by simp[W,x,A,Instr.loadAt,aU]
  rw[M]at y;simpa[u]using y
 obtain⟨Q,G,rfl⟩:=mY (aG w n j) (p:=1) (λQ G=>by grind) J z R;exact nM (bZ f.m) f.mem
def aR.eF(aG:bT P o){f:Z}{e:bh}(p:r.op=.load w f)(a:bY o w=b e)(g:e.agg=m)(d:h[l]?=b (.Q (ep ag T t v1 b' O ac)))(n:η f=ba l 1):aR P r η h (ce v1) h:=
 yA aG p a g d n λv L u j q s=>⟨v1,by simp,Rd.val s.cell⟩
def SW(e:h[l]?=b (.Q H)):∀a,h[l]?=b a->a.cN=m:=by intro a d;rw[e]at d;cases d;rfl
def aR.gy(aG:bT P o){g:Z}{f:bh}(s:r.op=.load w g)(d:bY o w=b f)(n:f.agg=m)(a:h[l]?=b (.Q (ep ag T i v1 b' O ac)))(q:η g=ba l 0):aR P r η h (ba l 0) h:=
 yA aG s d n a q λu L j p t e=>⟨L.v,by simp,SW a,L,j,e.m,e.v,e.v⟩
def aR.h6(aG:bT P o){f:Z}{e:bh}(p:r.op=.load w f)(a:bY o w=b e)(j:e.agg=m)(d:h[l]?=b (.Q (ep ag T m v1 b' O ac)))(n:η f=ba l 0):aR P r η h (aL .bj) h:=
 yA aG p a j d n λu L s g q t=>⟨.pointer k,by simp,Rd.bj⟩
def setRow_size(a:af)(d:Nat)(row:Array I):(a.setRow d row).heap.size=a.heap.size:=by simp[World.setRow]
def Dc(aG:bT P o){F j:Z}{E:bh}(ae:r.op=.store w F j)(z:bY o w=b E)(V:E.size=1)(ab:h[l]?=b (.Q (ep ag T t v1 b' O ac))){u:Bool}{q:I}(S:η F=ba l off)(R:off<2)(N:dx q=i)(ao:∀g L e p y,aZ h g->lL P h g l ag T t v1 b' O ac L e p->bo h g y (η j)->dx y=i/\(#[if t then L.v else .pointer k,v1]:Array I).setIfInBounds off y=#[if u then L.v else .pointer k,q]):aR P r η h .any (h.set l (.Q (ep ag T u q b' O ac))):=by
 intro g n M ad;obtain⟨L,e,p,f⟩:=ep.row (P:=P) M ab;have H:=f.ptr (by have:=ad F;rwa [S]at this);obtain⟨s,al⟩:=ao g L e p (n j) M f (ad j);have ai:(n j).cells=#[n j]:=by cases aq:n j<;>simp[aq,dx,Value.cells]at s⊢
 have C:∀y∈[n j],y.oneCell'=i:=by intro y H;simp at H;subst H;cases aq:n j<;>simp[aq,dx,Value.oneCell']at s⊢
 have U:=f.heap _ _ f.cm;have D:=run_storeCells_at P e off ag [n j] 0 _ g.a U J C;have ak:((#[if t then L.v else .pointer k,v1]:Array I).toList.take (off+0)++[n j]++(#[if t then L.v else .pointer k,v1]:Array I).toList.drop (off+0+[n j].length)).toArray=#[if u then L.v else .pointer k,q]:=by
  rw[<-al]
  match off,R with
  |0,_=>grind
  |1,_=>grind
 rw[ak]at D;have az:(g.a.setRow e #[if u then L.v else .pointer k,q]).heap[e]?=b (.cells #[if u then L.v else .pointer k,q] ag (0,0)):=setRow_heap g.a e _ _ ag _ U;have aj:∀d,d≠e->(g.a.setRow e #[if u then L.v else .pointer k,q]).heap[d]?=g.a.heap[d]?:=λd x=>setRow_other g.a e d _ x;obtain⟨A,t2⟩:=M.br (l:=l) (fN:=ep ag T u q b' O ac) (b7:=L) (a5:=g.a.setRow e #[if u then L.v else .pointer k,q]) ab f.m rfl (by rw[setRow_size];grind)
  (λd x Q=>aj d (by rintro rfl;exact Q f.mem)) (λd x=>.inl x)
  ⟨λd=>if d=e then b (.cells #[if u then L.v else .pointer k,q] ag (0,0))else p d,by
   obtain⟨K,Y,au,aw,ax⟩:=f.fJ;have:K=e:=by rw[f.v]at Y;grind
   subst this;have ay:∀d,(if d=K then b (Obj.cells #[if u then L.v else .pointer k,q] ag (0,0))else p d).isSome=i↔(p d).isSome=i:=J;refine⟨K,Y,N,by simp,?_⟩;grind,λd ar x=>by
   by_cases v:d=e
   .grind
   .simp only[v,cr]at x;rw[aj d v];exact f.heap _ _ x,λd=>by
   rw[f.V d];by_cases v:d=e
   .subst v;simp[f.cm]
   grind⟩ a a a
 have G:g.m.set l L=g.m:=by
  apply sT;intro ah;by_cases v:l=ah
  .subst v;rw[hN (cD.1 f.m).1,f.m]
  grind
 rw[G]at A t2;refine⟨.skip,{g with a:=g.a.setRow e #[if u then L.v else .pointer k,q]},?_,rfl,A,t2,?_⟩
 .simp[W,ae,H,Instr.storeAt,aU,storeVar,(aG w E z).aU,V,ai,D]
 intro X B;have v:W n r=(do storeVar w ⟨e,off,k⟩ (n j);pure .skip):=by simp[W,ae,H,Instr.storeAt,aU]
 rw[v]at B;have an:X∈(storeCells ⟨e,off,k⟩ [n j]).events P g.a #[]:=by
  simp only[storeVar,aE,(aG w E z).aU,ai,V,aH,events_sizeOf,e3,gD,cr,cn,cM,aT,List.size_toArray,iE]at B;generalize(storeCells ⟨e,off,k⟩ [n j]).run P g.a=f at B;cases f with
  |ok y a5=>simpa using B
  |halt F a5=>simpa using B
 rcases li [n j] 0 _ g.a #[] U J C X an with af|⟨ah,_,_,rfl⟩
 .grind
 exact l' (bZ f.m) f.mem (f.n _ f.mem _)
def aR.fO(aG:bT P o){j n:Z}{g:bh}(s:r.op=.store w j n)(d:bY o w=b g)(q:g.size=1)(e:h[l]?=b (.Q (ep ag T t v1 b' O ac))){a:I}(z:η j=ba l 1)(v:η n=ce a)(y:dx a=i):aR P r η h .any (h.set l (.Q (ep ag T t a b' O ac))):=
 Dc aG s d q e z x y λC L A p D u B f=>by rw[v]at f;have:=Rd.aM f;grind
def aR.h7(aG:bT P o){n p:Z}{g:bh}(v:r.op=.store w n p)(d:bY o w=b g)(q:g.size=1)(e:h[l]?=b (.Q (ep ag T t v1 b' O ac)))(A:η n=ba l 0)(u:η p=ba l 0)(z:dx v1=i):aR P r η h .any (h.set l (.Q (ep ag T i v1 b' O ac))):=
 Dc aG v d q e A x z λC L B s D y j f=>by rw[u]at f;have:=j.ptr f;subst this;refine⟨a,?_⟩;rw[<-j.v];rfl
def aR.h1{e:ab}(q:r.op=.alloc e)(u:∀l,(zeroValue e).run P l=.ok (.agg #[.pointer k,.slice k 0 0]) l)(x:∀l g,(zeroValue e).events P l g=g):aR P r η h (ba (c h) 0) (h++[.Q (ep e T m (.slice k 0 0) k [] 0)]):=by
 intro d D bc w;let a5:=d.a.alloc (.cells #[.pointer k,.slice k 0 0] e);obtain⟨z,y⟩:=bc.cF (b0:=d.n) (a5:=a5) (by simp[a5]) (λv t=>hY d.a _ t) (λ_ _ _=>rfl) (λv t r A o=>by have:=bc.block o;omega) rfl rfl rfl;have C:a5.heap.size=d.a.heap.size+1:=by simp[a5]
 have B:a5.heap[d.a.heap.size]?=b (.cells #[.pointer k,.slice k 0 0] e (0,0)):=kI d.a _;obtain⟨p,t2⟩:=z.bL y rfl bc (bR:=.Q (ep e T m (.slice k 0 0) k [] 0)) (L:=⟨.pointer (b ⟨d.a.heap.size,0,k⟩),[d.a.heap.size]⟩)
  ⟨λf=>if f=d.a.heap.size then b (.cells #[.pointer k,.slice k 0 0] e (0,0))else k,⟨d.a.heap.size,rfl,rfl,by simp,rfl,λf=>by by_cases n:f=d.a.heap.size<;>simp[n]⟩,λf s j=>by
   grind,λf=>by by_cases n:f=d.a.heap.size<;>simp[n],λf j s=>by
   simp at j;subst j;show d.n _ _=k;cases o:d.n d.a.heap.size s with
   |none=>rfl
   |some A=>have:=bc.block o;omega⟩ (λf j=>by grind)
 refine⟨.value (.pointer (b ⟨d.a.heap.size,0,k⟩)),_,?_,⟨by simp,⟨.pointer (b ⟨d.a.heap.size,0,k⟩),[d.a.heap.size]⟩,d.a.heap.size,?_,a,a⟩,p,t2,?_⟩
 .simp[W,q,Instr.alloc,u,Go.newVar,newRow,Value.cells,a5]
 .exact sn
 simp[W,q,Instr.alloc,u,x,Go.newVar,newRow];exact .nil
end
section
variable {q:al P}{be:e (Nat×bh)}{ag:ab}{N:Bool}{v1:I}{b':Option (Nat×Nat)}{O:e UInt8}{o:Nat}
def E'{P:aw}{g f:Nat}{y:ab}{r:Nat×Nat}:∀(z:e I)(a:Nat)(l:Array I)(h:af)(d:Array ay),h.heap[g]?=b (.cells l y r)->r.2<=f+a->f+a+c z<=l.size->(∀j∈z,j.oneCell'=i) ->
  ∀o∈(storeCells ⟨g,f,k⟩ z a).events P h d,o∈d∨∃p,a<=p/\p<a+c z/\o=sb g (f+p)
 |[],_,_,_,_,_,_,_,_=>λo q=>.inl cF
 |j::n,a,l,h,d,X,E,F,s=>λo q=>by
  have bL:f+a<l.size:=J;have t:h.cell? ⟨g,f+a,k⟩=b l[f+a]:=I6;have B:h.frozen? ⟨g,f+a,k⟩=m:=by obtain⟨w,D⟩:=r;simp only[World.frozen?,X,x',d6];grind
  have u:(store (⟨g,f+a,k⟩:Addr) j).run P h=.ok () (h.setRow g (l.setIfInBounds (f+a) j)):=LY;have v:(store (⟨g,f+a,k⟩:Addr) j).events P h d=d.push (sb g (f+a)):=by rw[events_store P h d _ j _ (s j Q),t];exact g3
  simp only[storeCells,aE,gg,u,v,aH]at q;rcases E' n (a+1) (l.setIfInBounds (f+a) j) _ _ (setRow_heap _ _ _ _ _ _ X) x J (λA N=>s A J) o q with K|⟨p,C,M,rfl⟩
  .grind
  grind
def lL.at{L:Loc}{n j a:Nat}{g:Nat->Option Obj}(v:lL P h d l ag T N v1 (b (j,a)) O o L n g):
  j≠n/\c O<=a/\0<a/\a<=9223372036854775807/\o<=c O/\(∃e,c (fs O++e)=a/\g j=b (.cells (fs O++e).toArray T (0,o)))/\(∀p,(g p).isSome=i↔p=n∨p=j)/\j∈L.V:=by
 obtain⟨x,y,_,_,q,r,s,t,u,f,w⟩:=v.fJ;have:x=n:=by rw[v.v]at y;grind
 subst this;obtain⟨e,f,z⟩:=f;exact⟨q,r,s,t,u,⟨e,f,z⟩,w,(v.V j).2 J⟩
def Ui{L:Loc}(a:d.m[l]?=b L):d.m.set l L=d.m:=kT
def lL.br{L:Loc}{s g a:Nat}{n:Nat->Option Obj}(w:aZ h d)(y:h[l]?=b (.Q (ep ag T N v1 (b (g,a)) O o)))(j:lL P h d l ag T N v1 (b (g,a)) O o L s n){ix:e UInt8}{nP:Nat}{sr:e I}{a5:af}(E:c (fs ix++sr)=a)(Q:c ix<=a)(K:nP<=c ix)(U:a5.heap.size=d.a.heap.size)(r:∀f,f≠g->a5.heap[f]?=d.a.heap[f]?)(bk:a5.heap[g]?=b (.cells (fs ix++sr).toArray T (0,nP)))(z:a5.os=d.a.os)(M:a5.tape=d.a.tape)(F:a5.output=d.a.output):
  aZ (h.set l (.Q (ep ag T N v1 (b (g,a)) ix nP))) {d with a:=a5}/\cA h d (h.set l (.Q (ep ag T N v1 (b (g,a)) ix nP))) {d with a:=a5}:=by
 obtain⟨p,B,u,v,C,⟨R,D,W⟩,V,S⟩:=j.at;obtain⟨A,t2⟩:=w.br (l:=l) (fN:=ep ag T N v1 (b (g,a)) ix nP) (b7:=L) (a5:=a5) y j.m rfl x
  (λf q Y=>r f J) (λf q=>.inl q)
  ⟨λf=>if f=g then b (.cells (fs ix++sr).toArray T (0,nP))else n f,⟨s,j.v,j.cell,(show(if s=g then _ else n s)=_ from(bp λt=>p t.symm).trans j.cm),p,Q,u,v,K,⟨sr,E,by simp⟩,λf=>by
   grind⟩,λf X q=>by
   by_cases t:f=g
   .grind
   .simp only[t,cr]at q;rw[r f t];exact j.heap _ _ q,λf=>by
   rw[j.V f]
   grind⟩ z M F
 rw[Ui j.m]at A t2;grind
def aR.h2{t2:ab}{W A:Z}(u:r.op=.call {callee:=.builtin .append,args:=#[W,A],argTypes:=#[w,t2]}){n:TypeInfo}(ae:P.underlying w=b (.slice T))(ad:P.underlying t2=b .string)(s:P.info? T=b n)(C:n.size=1){X cap:Nat}(t:h[l]?=b (.Q (ep ag T N v1 (b (X,cap)) O o)))(R:η W=ce (iN (b (X,cap)) p))(Q:c O=p){d:e UInt8}(S:η A=aL (.R d))(aQ:p+c d<=cap):
  aR P r η h (ce (iN (b (X,cap)) (p+c d))) (h.set l (.Q (ep ag T N v1 (b (X,cap)) (O++d) o))):=by
 intro j Y q v;subst Q;obtain⟨L,aT,aG,y⟩:=ep.row (P:=P) q t;obtain⟨az,aA,aB,aC,B,⟨g,aE,ax⟩,aF,ak⟩:=y.at;have D:=v W;rw[R]at D;have D:=Rd.aM D;have z:=v A;rw[S]at z;have z:=b2 z;generalize G:Y A=aO at z;cases z with
 |@R f _ af aq=>
 have al:f.size=c d:=by rw[<-af,lV];rfl
 have H:=y.heap _ _ ax;have aP:(fs O++g).toArray.size=cap:=J;have aj:=Lib.run_append_room_stringF (P:=P) j.a w t2 r.type T n ae ad s C X (c O) cap _ _ H B f x J;have an:((fs O++g).toArray.toList.take (c O)++Lib.strCells f++(fs O++g).toArray.toList.drop (c O+f.size))=fs (O++d)++g.drop (c d):=by
  have F:(fs O++g).take (c O)=fs O:=BZ;have I:(fs O++g).drop (c O+f.size)=g.drop (c d):=by rw[List.drop_append,IL,CJ J,al];simp
  have K:Lib.strCells f=fs d:=by simp[Lib.strCells,fs,af]
  rw[List.toList_toArray,F,I,K,Wz]
 rw[an,al]at aj;have ai:c g=cap-c O:=BZ;have aJ:c (fs (O++d)++g.drop (c d))=cap:=BZ;have aN:(j.a.setRow X (fs (O++d)++g.drop (c d)).toArray).heap[X]?=b (.cells (fs (O++d)++g.drop (c d)).toArray T (0,o)):=setRow_heap j.a X _ _ T _ H;obtain⟨U,ao⟩:=y.br (nP:=o) (a5:=j.a.setRow X (fs (O++d)++g.drop (c d)).toArray) q t aJ J J (setRow_size _ _ _) (λE au=>setRow_other j.a X E _ au) aN rfl rfl rfl;refine⟨.value (.slice (b ⟨X,0,k⟩) (c O+c d) cap),_,?_,Rd.val a,U,ao,?_⟩
 .rw[jh u,D,G];simp only[cn,dv];have aS:(Builtin.append_ #[w,t2] r.type #[iN (b (X,cap)) (c O),.string f]).run P j.a=_:=aj;exact g3
 rw[jh u,D,G];refine il λaH ah=>?_;have M:=Lib.run_firstCells_string (P:=P) j.a 1 f;have ar:=run_storeCells_atF P X (c O) T (0,o) (Lib.strCells f) 0 _ j.a H J J (Lib.strCells_oneCell f);have ay:c O+f.size<=cap:=x;have aw:(Builtin.firstCells 1 f.size (.string f)).events P j.a #[]=#[]:=rfl;simp[iN,Builtin.append_,run_underlying ae,run_underlying ad,sizeOf,typeInfo,s,C,Builtin.lenOf,ay,M,aw,gg,ar]at ah;rcases E' (Lib.strCells f) 0 _ j.a _ H J J (Lib.strCells_oneCell f) aH ah with aU|⟨aV,aK,aM,rfl⟩
 .grind
 exact l' (bZ y.m) ak (y.n _ ak _)
def aR.h3{t2:ab}{q n:Z}(j:r.op=.call {callee:=.builtin .append,args:=#[q,n],argTypes:=#[w,t2]}){e:TypeInfo}(v:P.underlying w=b (.slice T))(t:P.underlying t2=b .string)(s:P.info? T=b e)(C:η q=ce (iN k 0))(B:η n=aL (.R [])):aR P r η h (ce (iN k 0)) h:=by
 refine .aS λx A y l=>?_;have g:=l q;rw[C]at g;have g:=Rd.aM g;have f:=l n;rw[B]at f;have f:=b2 f;generalize u:A n=D at f;cases f with
 |@R d _ F E=>
 have o:d.size=0:=by have:c d.data.toList=0:=J;rw[lV]at this;exact this
 have p:=Lib.run_firstCells_string (P:=P) x.a e.size d;rw[o]at p;have z:(Builtin.firstCells e.size 0 (.string d)).events P x.a #[]=#[]:=rfl;refine⟨.slice k 0 0,?_,Rd.val a,?_⟩
 .rw[jh j,g,u];simp[iN,Builtin.append_,run_underlying v,run_underlying t,sizeOf,typeInfo,s,Builtin.lenOf,o,p]
 rw[jh j,g,u];simp[iN,Builtin.append_,run_underlying v,run_underlying t,sizeOf,typeInfo,s,Builtin.lenOf,o,p,z]
def MN{q:ar}{fn:Func}{aB:Array ab}(ao:P.underlying w=b (.slice T))(A:P.funcs[q]?=b fn)(aC:(fn.name== "runtime.NumGoroutine")=m)(a:fn.body.isNone=i)(X:Extern.findNext fn=k)(H:Extern.find fn=b (Extern.BytealgMakeNoZero.makeNoZero aB #[w])){K:Z}(E:r.op=.call {callee:=.value dC,args:=#[K],argTypes:=dK})(aJ:η dC=.k (.S (.c (.fn (.func q) [] []))))(ah:η K=.k (.S (.c (.int .i64 p))))(aR:0<p)(ad:p<=140737488355328)(B:h[l]?=b (.Q (ep ag T N v1 k O o))):
  ∀d C,aZ h d->(∀aA,bo h d (C aA) (η aA))->∃(M:{aT:Nat×Nat // p<=aT.2}) (t:aj) (Q:I),(W C r).run P d.a=.ok (.value Q) t.a/\bo (h.set l (.Q (ep ag T N v1 (b M.1) [] 0))) t Q (ce (iN (b M.1) p)) /\
   aZ (h.set l (.Q (ep ag T N v1 (b M.1) [] 0))) t/\cA h d (h.set l (.Q (ep ag T N v1 (b M.1) [] 0))) t/\cR d ((W C r).events P d.a #[]):=by
 intro d C S F;obtain⟨L,au,aN,g⟩:=ep.row (P:=P) S B;have an:C dC=.func (.func q) #[] #[]:=by
  have f:=F dC;rw[aJ]at f;have f:=b2 f;generalize C dC=Q at f;cases f with
  |fn aQ e a0 au aO aP aL aM d1 d2=>
   grind
 have G:C K=.int .i64 p:=by have f:=F K;rw[ah]at f;have f:=b2 f;generalize C K=Q at f;cases f;rfl
 obtain⟨e,f,R,U⟩:=Lib.run_makeNoZero (P:=P) d.a aB w T ao p x;have U:=U (by simp only[maxLen];omega);have D:(callFunc q #[.int .i64 p]).run P d.a=.ok (.value (.slice (b ⟨d.a.heap.size,0,k⟩) p e.size)) (d.a.drew.drew.alloc (.cells e T)):=by rw[run_callFunc_extern A aC a X H,f];rfl
 let a5:af:=d.a.drew.drew.alloc (.cells e T);have ae:a5.heap[d.a.heap.size]?=b (.cells e T (0,0)):=kI d.a.drew.drew _;have az:a5.heap.size=d.a.heap.size+1:=by show(d.a.drew.drew.heap.push _).size=_;simp
 obtain⟨v,ak,aU,aV,aY⟩:=g.fJ;have aq:v=au:=by rw[g.v]at ak;grind
 subst aq;have s:v<d.a.heap.size:=S.lt L (bZ g.m) v g.mem;have aF:d.a.heap.size≠v:=x;obtain⟨al,t2⟩:=S.br (l:=l) (fN:=ep ag T N v1 (b (d.a.heap.size,e.size)) [] 0) (b7:=⟨L.v,[v,d.a.heap.size]⟩) (a5:=a5) B g.m rfl x
  (λj y X=>hY d.a.drew.drew _ y) (λj y=>by
   simp at y;rcases y with rfl|rfl
   .exact .inl g.mem
   grind)
  ⟨λj=>if j=v then b (.cells #[if N then L.v else .pointer k,v1] ag (0,0))else if j=d.a.heap.size then b (.cells e T (0,0))else k,⟨v,g.v,g.cell,by simp,aF,by simp,by omega,by simp only[maxLen]at U;omega,by simp,⟨e.toList,by simp[fs],by exact g3⟩,λj=>by
   grind⟩,λj aS y=>by
   by_cases u:j=v
   .subst u;simp only[cN]at y;have:a5.heap[j]?=d.a.heap[j]?:=hY d.a.drew.drew _ s;rw[this,<-y];exact g.heap _ _ g.cm
   grind,λj=>by grind⟩ rfl rfl rfl
 refine⟨⟨(d.a.heap.size,e.size),R⟩,_,_,?_,Rd.val rfl,al,t2,?_⟩
 .simp[W,E,resolve,Deferred.ofValue,invoke,an,G,D,a5,iN]
 intro z aH;simp only[W,E,resolve,Deferred.ofValue,invoke,an,G]at aH;have aE:z∈(callFunc q #[.int .i64 p]).events P d.a #[]:=J;have aG:fn.name≠ "runtime.NumGoroutine":=J;have aK:fn.body=k:=by simpa using a
 have key:∀n:Array ay,∀u∈(Extern.BytealgMakeNoZero.makeNoZero aB #[w] #[.int .i64 p]).events P d.a n,u∈n∨∃ai,u=⟨.mark ai,m,i⟩/\Go.Conc.Neutral ai:=by
  intro n u H;change u∈Sem.events P (underlying _ >>= _) _ _ at H;have f:¬(p:Int)<0:=x;have R:¬(281474976710656:Int)<(p:Int):=x;have ax:u∈(askRoom (grownCap d.a p 0 T)).events P d.a.drew n:=by simpa[run_underlying ao,f,R,Question.forced,newRow,grownCap]using H
  grind[Go.Conc.events_askRoom]
 have:z∈(Extern.BytealgMakeNoZero.makeNoZero aB #[w] #[.int .i64 p]).events P d.a ((#[]:Array ay).push ⟨.mark (.extern q),m,i⟩):=by have u:callFunc q #[.int .i64 p]=callFunc q #[.int .i64 p]:=rfl;simpa[callFunc,A,aG,aK,X,H,f]using aE
 rcases key _ _ this with aw|⟨ai,rfl,Y⟩
 .simp at aw;subst aw;exact .inr ⟨q,rfl⟩
 exact .inl Y
def MO{D Y:ab}{p v:Z}(cO:r.op=.call {callee:=.builtin .unsafeString,args:=#[p,v],argTypes:=#[D,Y]})(S:P.underlying D=b (.pointer T))(F:P.cellsOf T=1){j g:Nat}(ae:h[l]?=b (.Q (ep ag T N v1 (b (j,g)) O o)))(ai:η p=ce (.pointer (b ⟨j,0,k⟩)))(aj:η v=aL (.int .i64 (c O))):
  aR P r η h (aL (.R O)) (h.set l (.Q (ep ag T N v1 (b (j,g)) O (c O)))):=by
 intro d G z U;obtain⟨L,a0,aZ,X⟩:=ep.row (P:=P) z ae;obtain⟨aQ,y,aS,aT,aU,⟨w,I,af⟩,aV,aM⟩:=X.at;have C:=U p;rw[ai]at C;have C:=Rd.aM C;have al:G v=.int .i64 (c O):=by have s:=U v;rw[aj]at s;have s:=b2 s;generalize G v=a1 at s;cases s;rfl
 have aq:=X.heap _ _ af;have an:W G r=(do pure (.value (<-Builtin.unsafeString_ #[D,Y] r.type #[G p,G v]))):=LK;have ah:(fs O++w).toArray.size=g:=J;by_cases K:O=[]
 .subst K;have aA:=Lib.run_unsafeString_none (P:=P) d.a D Y r.type (b ⟨j,0,k⟩);obtain⟨A,t2⟩:=X.br (ix:=[]) (nP:=0) (sr:=w) (a5:=d.a) z ae I y Q rfl (λ_ _=>rfl) J rfl rfl rfl;refine⟨.value (.string .empty),_,g3,Rd.R a Q,A,t2,?_⟩;rw[an,C,al];exact J7
 .have f:∀q p,O[q]?=b p->d.a.cell? ((⟨j,0,k⟩:Addr).add q)=b (.int .u8 p.toNat):=by
   intro q p ad;rw[gg];simp only[aJ,aq,cX];have ax:q<c O:=(cD.1 ad).1;have:(fs O)[q]?=b (.int .u8 p.toNat):=by simp[fs,ad]
   grind
  have ao:d.a.shape? j=b (T,g):=by simp only[World.shape?,aq];grind
  have aA:=Lib.run_unsafeString_row (P:=P) d.a D Y r.type T S F j g ao O K y x f;have ac:c O≠0:=J;have M:(d.a.freeze ⟨j,0,k⟩ (c O)).heap[j]?=b (.cells (fs O++w).toArray T (0,c O)):=by simp only[World.freeze,ac,cr,Array.getElem?_modify,cN,aq,lY];grind
  obtain⟨A,t2⟩:=X.br (ix:=O) (nP:=c O) (sr:=w) (a5:=d.a.freeze ⟨j,0,k⟩ (c O)) z ae I y (bE _) xO (λaY aw=>by
   simp only[World.freeze,ac,cr,Array.getElem?_modify]
   grind) M xO xO xO
  refine⟨.value (.string ⟨O.toArray⟩),_,?_,Rd.R Q x,A,t2,?_⟩
  .rw[an,C,al];simp only[cn,dv,aA];rfl
  rw[an,C,al];refine il λu B=>?_;have aC:¬(c O:Int)<0:=x;have aN:¬(9223372036854775807:Int)<(c O:Int):=x;have az:=Lib.liesAt_bytes (P:=P) F (g / P.cellsOf T) (c O) J;have aB:IntKind.i64.max=9223372036854775807:=rfl;have R:=Lib.run_loadBytes (P:=P) d.a O ⟨j,0,k⟩ .empty f;have aK:∀(H:e UInt8) (E:Nat) (t:ByteArray) (n:Array ay),(∀q p,H[q]?=b p->d.a.cell? ⟨j,E+q,k⟩=b (.int .u8 p.toNat))->∀u∈(loadBytes ⟨j,E,k⟩ t (c H)).events P d.a n,u∈n∨∃q,u=n5 j q:=by
   intro H;induction H with
   |nil=>intro E t n _ u B;exact .inl (by simpa[loadBytes]using B)
   |cons v H ak=>
    intro E t n F u B;have ar:=F 0 v a;simp only[iK]at ar;have aG:(load ⟨j,E,k⟩).run P d.a=.ok (.int .u8 v.toNat) d.a:=by grind[run_load]
    simp only[fR,loadBytes,aE,aG,aH,zI ar,gg]at B;rcases ak (E+1) _ _ (λq p ad=>by have:=F (q+1) p J;grind) u B with au|au
    .grind
    grind
  have aO:(variablesAt ⟨j,0,k⟩ T (c O)).run P d.a=.ok i d.a:=by simp[variablesAt,ao,az]
  have aF:∀n,(variablesAt ⟨j,0,k⟩ T (c O)).events P d.a n=n:=λn=>by simp[variablesAt,ao,az]
  have aP:u∈(loadBytes ⟨j,0,k⟩ .empty (c O)).events P d.a #[]:=by change u∈Sem.events P (asInt (.int .i64 (c O:Int)) >>= _) _ _ at B;simpa[asInt,asIntOf,aB,aC,aN,ac,elemOf,run_underlying S,aO,aF,R]using B
  rcases aK O 0 .empty #[] (λq p ad=>by grind[gg]) u aP with au|⟨q,rfl⟩
  .grind
  exact nM (bZ X.m) aM
end
section
variable {q:al P}{U:e (Nat×bh)}{ag:ab}{X:Bool}{v1:I}{b':Option (Nat×Nat)}{O:e UInt8}{f:Nat}
def aR.exact{j:Z}{n:I}{l:s}(o:η j=ce ai)(p:∀(a:Z->I) g,a j=ai->(W a r).run P g=.ok (.value n) g/\(W a r).events P g #[]=#[])(v:∀h f,bo h f n l):aR P r η h l h:=by refine .aS λf a u e=>?_;have d:=e j;rw[o]at d;have d:=Rd.aM d;obtain⟨q,t⟩:=p a f.a d;grind
def aR.fj{a:Z}(l:r.op=.call {callee:=.builtin .len,args:=#[a],argTypes:=dK})(j:dK[0]?=b w)(g:P.underlying w=b (.slice T)){d:Option Addr}{f:Nat}(n:η a=ce (.slice d p f))(q:p<=9223372036854775807):aR P r η h (aL (.int .i64 p)) h:=
 .exact n (λo s e=>by constructor<;>simp[W,l,resolve,invoke,builtin,Builtin.len_,e,run_underlying g,goInt,j]) (λ_ _=>Rd.int mw)
def aR.gE{d:Z}(l:r.op=.call {callee:=.builtin .cap,args:=#[d],argTypes:=dK})(j:dK[0]?=b w)(g:P.underlying w=b (.slice T)){e:Option Addr}{a:Nat}(n:η d=ce (.slice e p a))(q:a<=9223372036854775807):aR P r η h (aL (.int .i64 a)) h:=
 .exact n (λo s f=>by constructor<;>simp[W,l,resolve,invoke,builtin,Builtin.cap_,f,run_underlying g,goInt,j]) (λ_ _=>Rd.int mw)
def aR.hK{e:Z}(l:r.op=.call {callee:=.builtin .unsafeSliceData,args:=#[e],argTypes:=dK}){d:Nat}(g:η e=ce (.slice k p d)):aR P r η h (ce (.pointer k)) h:=
 .exact g (λn o f=>by
  have j:Builtin.unsafeSliceData_ dK r.type #[.slice k p d]=pure (.pointer k):=rfl
  constructor<;>simp[W,l,resolve,invoke,builtin,f,j]) (λ_ _=>Rd.val a)
def aR.hL{f:Z}(o:r.op=.call {callee:=.builtin .unsafeSliceData,args:=#[f],argTypes:=dK}){d:Addr}{e:Nat}(j:η f=ce (.slice (b d) p e))(g:e≠0):aR P r η h (ce (.pointer (b d))) h:=
 .exact j (λs t n=>by
  obtain⟨q,rfl⟩:=Nat.exists_eq_succ_of_ne_zero g;have l:Builtin.unsafeSliceData_ dK r.type #[.slice (b d) p (q+1)]=pure (.pointer (b d)):=rfl
  constructor<;>simp[W,o,resolve,invoke,builtin,n,l]) (λ_ _=>Rd.val a)
def aR.iT{A u:Z}(D:r.op=.slice w A k (b u) k)(F:P.underlying w=b (.slice T)){x:TypeInfo}(l:P.info? T=b x){f:Addr}{j o:Nat}(N:η A=ce (.slice (b f) p j))(C:η u=aL (.int .i64 o))(v:o<=p)(M:p<=j)(J:j≠0)(Q:f.add 0=f):aR P r η h (ce (.slice (b f) o j)) h:=by
 refine .aS λK E e s=>?_;have g:=s A;rw[N]at g;have g:=Rd.aM g;have B:E u=.int .i64 o:=by have d:=s u;rw[C]at d;have d:=b2 d;generalize E u=R at d;cases d;rfl
 have n:((k:Option I)=k/\(k:Option Int)=k)∨∃o t,(k:Option I)=b (.int o t)/\(k:Option Int)=b t:=.inl ⟨rfl,rfl⟩;have e:(b (Value.int .i64 o)=k/\(b (o:Int))=k)∨∃y t,b (Value.int .i64 o)=b (.int y t)/\(b (o:Int))=b t:=.inr ⟨_,_,rfl,rfl⟩;have q:V (ib p k (b (o:Int))):=by simp[ib,v]
 obtain⟨z,_,_⟩:=ub (P:=P) (jl:=i) M n e q K.a;have O:=tl (P:=P) (jl:=i) M n e q K.a;simp only[cE,dB]at z;refine⟨.slice (b f) o j,?_,Rd.val a,?_⟩
 .simp[W,D,g,B,Instr.sliceAt,run_underlying F,Instr.slice,z,sizeOf,typeInfo,l,J,Q]
 simp[W,D,g,B,Instr.sliceAt,run_underlying F,Instr.slice,z,O,sizeOf,typeInfo,l,J]
def aR.im{t2:ab}{j l:Z}(q:r.op=.call {callee:=.builtin .copy,args:=#[j,l],argTypes:=#[w,t2]})(t:P.underlying w=b (.slice T)){g:TypeInfo}(f:P.info? T=b g){n:Addr}{o:Nat}(u:η j=ce (.slice (b n) 0 o))(p:η l=ce (.slice k 0 0)):aR P r η h (aL (.int .i64 0)) h:=by
 refine .aS λx v s a=>?_;have e:=a j;rw[u]at e;have e:=Rd.aM e;have d:=a l;rw[p]at d;have d:=Rd.aM d;refine⟨.int .i64 0,?_,Rd.int kU,?_⟩<;>
 simp[W,q,resolve,invoke,builtin,Builtin.copy_,e,d,run_underlying t,sizeOf,typeInfo,f,Builtin.lenOf,Builtin.firstCells,storeCells,goInt]
def aR.jU{p o:ab}{n f:Z}(cO:r.op=.call {callee:=.builtin .unsafeString,args:=#[n,f],argTypes:=#[p,o]})(w:η n=ce (.pointer k))(v:η f=aL (.int .i64 ((0:Nat):Int))):aR P r η h (aL (.R [])) h:=by
 refine .di λd j u l=>?_;have g:=l n;rw[w]at g;have g:=Rd.aM g;have q:j f=.int .i64 0:=by have e:=l f;rw[v]at e;have e:=b2 e;generalize j f=x at e;cases e;rfl
 have s:W j r=(do pure (.value (<-Builtin.unsafeString_ #[p,o] r.type #[j n,j f]))):=LK;have t:=Lib.run_unsafeString_none (P:=P) d.a p o r.type k;refine⟨.string .empty,?_,Rd.R a Q,?_⟩
 .rw[s,g,q];simp only[cn,dv,t];rfl
 rw[s,g,q];exact J7
def aR.h8(z:h[l]?=b (.Q (ep ag T X v1 b' O f))){a dst:ab}{e:Z}(u:r.op=.convert a dst e)(y:P.underlying a=b (.pointer ag))(w:P.underlying dst=b .unsafePointer){v:TypeInfo}(d:P.info? ag=b v)(t:v.size≠0)(B:η e=ba l 0):aR P r η h (ba l 0) h:=by
 refine .aS λp A n o=>?_;obtain⟨L,g,eb,a1⟩:=ep.row (P:=P) n z;have j:=o e;rw[B]at j;have x:=a1.ptr j;have s:p.a.shape? g=b (ag,2):=LX;have q:=Lib.run_to_unsafe (P:=P) p.a ⟨g,0,k⟩ y w d t s Q;refine⟨A e,by simp[W,u,x,q],j,?_⟩;have:(convert a dst (.pointer (b ⟨g,0,k⟩))).events P p.a #[]=#[]:=by simp[convert,run_underlying y,run_underlying w,Conv.unsafePointer,Conv.seenAt,viewAt,cellsIn,s,sizeOf,typeInfo,d,t]
 simp[W,u,x,q,this]
def aR.h5(z:h[l]?=b (.Q (ep ag T X v1 b' O f))){a dst:ab}{e:Z}(u:r.op=.convert a dst e)(y:P.underlying a=b .unsafePointer)(w:P.underlying dst=b (.pointer ag)){v:TypeInfo}(d:P.info? ag=b v)(A:v.size≠0)(q:liesAt P P.depth ag (2 / P.cellsOf ag) 0 ag 1=i)(C:η e=ba l 0):aR P r η h (ba l 0) h:=by
 refine .aS λp B n o=>?_;obtain⟨L,g,eb,a1⟩:=ep.row (P:=P) n z;have j:=o e;rw[C]at j;have x:=a1.ptr j;have t:p.a.shape? g=b (ag,2):=LX;have s:=Lib.run_from_unsafe (P:=P) p.a ⟨g,0,k⟩ y w d t q;refine⟨B e,by simp[W,u,x,s],j,?_⟩;have:(convert a dst (.pointer (b ⟨g,0,k⟩))).events P p.a #[]=#[]:=by simp[convert,run_underlying y,run_underlying w,Conv.unsafePointer,Conv.seenAt,viewAt,variablesAt,t,sizeOf,typeInfo,d,A,q]
 simp[W,u,x,s,this]
def aR.jw{g:ar}{fn:Func}(t:P.funcs[g]?=b fn)(p:(fn.name== "runtime.NumGoroutine")=m)(v:fn.body.isNone=i)(w:Extern.findNext fn=k)(u:Extern.find fn=b Extern.AbiNoEscape.same){e:Z}(f:r.op=.call {callee:=.value dC,args:=#[e],argTypes:=dK})(I:η dC=.k (.S (.c (.fn (.func g) [] [])))){n:s}(C:η e=n):aR P r η h n h:=by
 refine .di λl d E j=>?_;have q:d dC=.func (.func g) #[] #[]:=by
  have a:=j dC;rw[I]at a;have a:=b2 a;generalize d dC=N at a;cases a with
  |fn D z K M A B x y d1 d2=>
   grind
 have F:(callFunc g #[d e]).run P l.a=.ok (.value (d e)) l.a:=by rw[run_callFunc_extern t p v w u];rfl
 have J:=EM (P:=P) t p v w u #[d e] (λ_ _=>rfl) l.a #[];refine⟨d e,?_,by grind,λO o=>?_⟩
 .simp[W,f,resolve,Deferred.ofValue,invoke,q,F]
 simp[W,f,resolve,Deferred.ofValue,invoke,q,J]at o;subst o;exact .inr ⟨_,rfl⟩
end
end Go.AM
