/- Part 4. No condition. -/
import Derived.Test.YtbdgiagmgelcbaaGreatDoorA3
import Derived.Sort.AssemblyPlain
import Derived.Sort.LotD5
import Derived.Conc.DeferLaws
import Derived.Sort.Walk13a
import Derived.RowKit
import Derived.Conc.Holds
set_option linter.all false
set_option maxHeartbeats 8000000
open Go.Proofs
open Go.Proofs.Tryz
open List renaming length → c, range → aI, replicate → aW, getD_eq_getElem?_getD → av, all_eq_true → aX
open Go renaming Value → I, TypeId → ab, Event → ay, undef → E, World → af, Operand → Z, execOp → W, Program → aw, Oper → ah, Goroutine → ae, stepG → ap, Frame → az, FuncId → ar, MapEntry → aC
open Option renaming some → b, none → k
open Bool renaming true → i, false → m
open Nat renaming beq → aa, ble → aD
open Go.World renaming cell? → aJ
open Go.Sem renaming events_pure → aT, events_bind → aE
open Go.Op renaming bytesLess → aK, equalIn → aM
open Go.Result renaming evThen_ok → aH
open Go.Instr renaming sureAddr → aU
open Go.Proofs.Tryz renaming prog → R
open Go.Conc renaming stepG_seq → aA, stepG_region_end → aF
namespace Go.AM
variable {p:Nat}{o:Int}{l j f y:Nat}{T:ab}{H:I->(Nat->Option Obj)->Prop}{L:Array Bool}{bi:Mem}{B:Nat}{P:aw}{bg:ae->aj->Prop}{u:Code}{X:ae}{r:ah}{d:aj}{w:ab}{ai:I}{K:af}{α:Type}{η:Z->s}{ι:Type}{h:e Y}{F:bd}{all:e ah}{dK:Array ab}{cap:e D}{dg:e s}{eb:Nat->Option Obj}{aY:e az}{bK:e (Nat×Bool)}{es:Nat->e D}{dC:Z}{gs:Array ae}{bb:e Nat}{cl:e Prop}{off:Nat}{op:BinOp}{aP:Array ah}{aB:e Prop}{bw:e ah}{au:aj}{gz:Bool}{ty:ab}{val:Nat->Nat->I}{z:e I}{a5:af}{O:e I}{aO dq:e Y}{res:ι->s}{a6:ι->e Y}
variable {CT:e (Nat×bB)}{ax:e dz}{a7:dn}{ag:e (Nat×bh)}{bz:bh}
namespace R1
section
variable {q:al R}
def j_(a:Nat->Int):Nat->e D:=λd=>[.int .u8 (a d)]
def Bytes(a:Nat->Int):Prop:=∀d,0<=a d/\a d<=255
abbrev dD(e:Nat)(a:Nat->Int)(d:Int):Y:=.cells 85 [.c (.M m 1 e (j_ a)),.c (.int .i64 d)]
def bG.cO{f:ar}{fn:Func}{args:e s}{a:ι->e Y}(p:Tryz.prog.funcs[f]?=b fn)(n:(fn.name== "runtime.NumGoroutine")=m)(t:fn.body=b u)(o:aD args.length fn.ntmps=i)(v:jA args h->g q fn.ntmps (λr l d=>∃j,b3 fn h.length (res j) (a j) r l d) [.code u] .normal (hh 0 args) h):bG q f args h res a:=
 bG.ff p n t o λw=>bX.bn (g.aW (v w))
def g.bS{fn:Func}{j:Nat}{a:ι->e Y}(f:ι)(o:g q B (b3 fn j (res f) (a f)) ax .normal F h):g q B (λn F d=>∃l,b3 fn j (res l) (a l) n F d) ax .normal F h:=
 g.bC (λ_ _ _ p=>⟨f,p⟩) o
def kp(d:Nat)(e:Nat->Int)(a:Nat)(f:Int):Int:=
 if d=0 then 0 else if a<d then e a % f else
  ((e ((a:Int) % d).toNat*131+e (((a:Int)*7+3) % d).toNat*1117+a*29+(a:Int) / d*53).toNat ^^^ ((e ((a:Int) % d).toNat*131+e (((a:Int)*7+3) % d).toNat*1117+a*29+(a:Int) / d*53) / 64).toNat:Nat) % f
set_option maxRecDepth 20000 in
def E5(f:Nat)(h:Nat->Int)(r:Bytes h)(d:Nat)(l:Int)(t:d<=4000000)(A:f<=1048576)(M:1<=l/\l<=4000000):
  ad q 14 [ba 0 0,S l] [dD f h d] (S (kp f h d l)) [dD f h (d+1)]:=by
 refine ad.E func14 rfl λw=>?_;have o:∀j,j<c ([dD f h d]:e Y)->([0]:e Nat)[j]?=b j:=λj C=>by grind
 by_cases p:f=0
 .subst p;refine a_ [-17,24] a cF (g.aQ [0] a ?_ o);exact cF
 have n:((d:Int)+1-1)=d:=x;have z:((d:Int)+1-1).toNat=d:=x;have y:=r d;by_cases E:(d:Int)<f
 .refine a_ [-17,-24,36] a ?_ (g.aQ [0] a ?_ o)
  .simp only[V,n,dB,bM,d6,gn,a9];omega
  have:d<f:=x;simp[kp,p,this]
 refine b6 [-17,-24,-36] a ?_ (g.aQ [0] a ?_ o)
 .simp only[V,n,d6,gn,a9];have s:(0:Int)<f:=x;have B:=qK (d:Int) (by omega:(f:Int)≠0);have D:=qF (d:Int) s;have v:=qK ((d:Int)*7+3) (by omega:(f:Int)≠0);have F:=qF ((d:Int)*7+3) s;have w1:0<=(d:Int) / f:=Int.ediv_nonneg x x;have w2:(d:Int) / f<=d:=Int.ediv_le_self _ x;generalize(d:Int) % f=u at *;generalize((d:Int)*7+3) % f=ai at *;generalize(d:Int) / f=K at *;have I:=r u.toNat;have J:=r ai.toNat;grind
 have:¬d<f:=x;simp[kp,p,this,n]
def Hb(f:Nat)(d:Nat->Int)(e:Nat)(a:Int)(g:1<=a):0<=kp f d e a/\kp f d e a<a:=by
 unfold kp;split
 .omega
 split
 .exact⟨qK _ x,qF _ x⟩
 exact⟨qK _ x,qF _ x⟩
def jg(f:Nat)(d:Nat->Int)(u:Bytes d)(e:Nat)(a:Int)(n:e<=4000000)(t:f<=1048576)(p:1<=a/\a<=4000000):
  bG (ι:={g:Int // 0<=g/\g<a}) q 14 [ba 0 0,S a] [dD f d e] (λg=>S g.1) (λ_=>[dD f d (e+1)]):=by have r:=E5 (q:=q) f d u e a n t p;exact⟨r.1,λv z o l s h j=>r.2 v z o l s h (j ⟨_,Hb f d e a p.1⟩)⟩
def pQ(a:Nat->e D):Nat->Int:=λd=>p' (a d) 0
def yE:bB:=λargs g=>match args,g with
 |[.k (.S (.ptr 0 0)),.k (.S (.c (.int .i64 f)))],[.cells 85 [.c (.M m 1 e a),.c (.int .i64 d)]]=>
  b (S (kp e (pQ a) d.toNat f),[dD e (pQ a) (d+1)],[d=d.toNat,a=j_ (pQ a),Bytes (pQ a),d<=4000000,e<=1048576,1<=f,f<=4000000])
 |_,_=>k
def Vb:bI q 14 yE:=by
 intro args s f g e a d;unfold yE at a;split at a
 .rename_i p r es o;cases a;obtain⟨v,t,n,u,l,h,j⟩:=d;have:=E5 (q:=q) r (pQ es) n o.toNat p x l ⟨h,j⟩;grind
 grind
def nN:∀a,a<1->([0]:e Nat)[a]?=b a:=λa d=>by grind
set_option maxRecDepth 20000 in
def zL(j:Nat)(f:Nat->Int)(s:Bytes f)(h:Nat)(l:h<=4000000)(r:j<=1048576)(d:e an)(w:1<=c d/\c d<=1000):
  bG (ι:={n:an // n∈d}) q 91 [ba 0 0,bD.M d] [dD j f h] (λn=>bC n.1) (λ_=>[dD j f (h+1)]):=by refine bG.cO func91 rfl rfl rfl λv=>?_;refine a8 a M (g.a4 (jg j f s h (c d) l r x) [0] a bN ?_);rintro⟨o,t,u⟩;refine a8 a cb ?_;have p:d.getD o.toNat bD.N∈d:=J;refine g.bS ⟨d.getD o.toNat bD.N,p⟩ (g.aQ [0] a ?_ nN);simp
def G9:e an:=[[],[102],[97,47],[97,98],[97,47,98,47,99],[47,97]]
def G_:e an:=[[97],[98],[99,47,97],[99,47,98],[100,47,97],[101],[97,47,98],[100]]
set_option maxRecDepth 20000 in
def vU(j:Nat)(e:Nat->Int)(p:Bytes e)(h:Nat)(r:h<=100000)(o:j<=1048576):
  bG (ι:={d:an // c d<=8}) q 39 [ba 0 0] [dD j e h] (λd=>bC d.1) (λ_=>[dD j e (h+1+1)]):=by
 refine bG.cO func39 rfl rfl rfl λv=>?_;refine a8 a M (g.a4 (jg j e p h 40 x o x) [0] a bN ?_);rintro⟨s,t,u⟩;by_cases n:s=0
 .refine a_ [5] a hc ?_;have:=zL (q:=q) j e p (h+1) x o G9 cz;refine g.cp this [0] a a a a ?_ a a a bN a bN a ?_
  .refine⟨a,λf bL=>?_⟩;rcases f with _|_|_|_|_|_|f<;>first|rfl|omega
  rintro⟨d,l⟩;refine a8 a M (g.bS ⟨d,(by decide:∀d∈G9,c d<=8) d l⟩ (g.aQ [0] a ?_ nN));simp
 refine a_ [-5] a hc ?_;have:=zL (q:=q) j e p (h+1) x o G_ cz;refine g.cp this [0] a a a a Kv a a a bN a bN a ?_;rintro⟨d,l⟩;refine a8 a M (g.bS ⟨d,(by decide:∀d∈G_,c d<=8) d l⟩ (g.aQ [0] a ?_ nN));simp
def IX:e an:=[[97,98,99],[104,101,108,108,111],[119,111,114,108,100],[97,97,97,97],[107,101,101,112],[122,122],[98,97,99,107,117,112],[113]]
abbrev Mn(d:Nat):={a:an×Nat // c a.1<=100000/\d<=a.2/\a.2<=d+60}
def EX(n:an)(l:Int)(v:c n<=10)(A:0<=l/\l<=100):bG (ι:={p:an // c p<=100000}) q 92 [bC n,S l] [] (λp=>bC p.1) (λ_=>[]):=by
 refine bG.cO func92 rfl rfl rfl λw=>?_;refine a8 a M (g.b1 (λj:Nat×an×an=>j.1<=100/\c j.2.2+c j.2.1*j.1<=1010) (λj=>[(0,bC j.2.1),(1,S j.1),(5,bC j.2.2)]) (λ_=>[]) (λj=>j.1) (l.toNat,n,[]) a cb a M ⟨by grind,?_⟩ ?_)
 .have:c n*l.toNat<=10*100:=Nat.mul_le_mul v x;grind
 rintro⟨d,e,h⟩ ⟨s,t⟩;simp only at s t;by_cases o:0<d
 .have f:c e<=c e*d:=uY _ o;have y:((d:Int) / 2)=((d / 2:Nat):Int):=x;by_cases z:d % 2=1
  .have r:c (e++e)*(d / 2)+c e=c e*d:=by have u:d=2*(d / 2)+1:=x;grind
   refine a_ [7,10] a bx (g.bI (d / 2,e++e,h++e) a Q a M J ?_);grind
  have r:c (e++e)*(d / 2)=c e*d:=by have u:d=2*(d / 2):=x;grind
  refine a_ [7,-10] a bx (g.bI (d / 2,e++e,h) a Q a M J ?_);grind
 obtain rfl:d=0:=x;refine a_ [-7] a Q (g.a_ a a ?_);exact a8 a M (g.bS ⟨h,by omega⟩ (g.an a))
set_option maxRecDepth 20000 in
def Fb(h:Nat)(e:Nat->Int)(o:Bytes e)(j:Nat)(I:j<=100000)(p:h<=1048576):
  bG (ι:=Mn j) q 40 [ba 0 0] [dD h e j] (λz=>bC z.1.1) (λz=>[dD h e z.1.2]):=by
 refine bG.cO func40 rfl rfl rfl λC=>?_;refine a8 a M (g.a4 (jg h e o j 5 x p x) [0] a bN ?_);rintro⟨T,U,V⟩;refine a8 a M (g.aN 1 (λd:Nat×an×Nat=>d.1<=4/\c d.2.1+6*d.1<=24/\j<=d.2.2/\d.2.2+d.1<=j+5) (λd=>[(0,ba 0 0),(4,S d.1),(3,bC d.2.1)]) (λd=>[dD h e d.2.2]) (λd=>d.1) (T.toNat,[],j+1) a cb a Q a ⟨by omega,by grind,by simp,by grind⟩ ?_);rintro⟨r,d,k1⟩ ⟨B,K,F,Z⟩;simp only at B K F Z;by_cases n:0<r
 .refine a_ [9] a hc ?_;have:=zL (q:=q) h e o k1 x p IX cz;refine g.cp this [0] a a a a Kv a a a bN a bN a ?_;rintro⟨l,w⟩;have af:c l<=6:=(by decide:∀l∈IX,c l<=6) l w;refine a8 a sm (g.av (r-1,d++l,k1+1) a cb Q J ?_);grind
 obtain rfl:r=0:=x;refine a_ [-9] a Q (g.aA ?_);refine a8 a M (g.a4 (jg h e o k1 4 x p x) [0] a bN ?_);rintro⟨R,ad,ae⟩;by_cases A:R=0
 .refine a_ [19] a (by simp[A]) (g.a4 (jg h e o (k1+1) 12 x p x) [0] a bN ?_);rintro⟨W,X,w1⟩;refine a8 a M (g.aN 1 (λd:Nat×an×Nat=>d.1<=11/\c d.2.1+d.1<=36/\j<=d.2.2/\d.2.2+d.1<=j+20) (λd=>[(0,ba 0 0),(5,S d.1),(3,bC d.2.1)]) (λd=>[dD h e d.2.2]) (λd=>d.1) (W.toNat,d,k1+2) a cb a cb a ⟨by omega,by grind,by grind,by grind⟩ ?_);rintro⟨r,u,v⟩ ⟨s,O,H,D⟩;simp only at s O H D;by_cases n:0<r
  .refine a_ [23] a hc (g.a4 (jg h e o v 26 x p x) [0] a bN ?_);rintro⟨Y,ab,L⟩;refine a8 a sm (g.av (r-1,u++[UInt8.ofNat (97+Y).toNat],v+1) a cb Q J ?_);grind
  obtain rfl:r=0:=x;refine a_ [-23] a Q (g.aA ?_);refine a_ [-36] a cb (g.a4 (jg h e o v 60 x p x) [0] a bN ?_);rintro⟨y,G,N⟩;by_cases E:y=0
  .refine a_ [41] a bx (g.bS ⟨(u++[65],v+1),by grind,by grind,by grind⟩ (g.aQ [0] a ?_ nN));simp
  by_cases t:y=1
  .refine a_ [-41,45] a mx (g.a4 (EX [97,98,99,100,101] 9 cz cz) [] a bN ?_);rintro⟨l,w⟩;refine a8 a M (g.bS ⟨(l,v+1),w,by grind,by grind⟩ (g.aQ [0] a ?_ nN));simp
  refine a_ [-41,-45] a bx (g.bS ⟨(u,v+1),by grind,by grind,by grind⟩ (g.aQ [0] a ?_ nN));simp
 refine is [-19] 2 a (by simp[A]) (a_ [-36] a cb (g.a4 (jg h e o (k1+1) 60 x p x) [0] a bN ?_));rintro⟨y,G,N⟩;by_cases E:y=0
 .refine a_ [41] a bx (g.bS ⟨(d++[65],(k1+1)+1),by grind,by grind,by grind⟩ (g.aQ [0] a ?_ nN));simp
 by_cases t:y=1
 .refine a_ [-41,45] a mx (g.a4 (EX [97,98,99,100,101] 9 cz cz) [] a bN ?_);rintro⟨l,w⟩;refine a8 a M (g.bS ⟨(l,(k1+1)+1),w,by grind,by grind⟩ (g.aQ [0] a ?_ nN));simp
 refine a_ [-41,-45] a bx (g.bS ⟨(d,(k1+1)+1),by grind,by grind,by grind⟩ (g.aQ [0] a ?_ nN));simp
def Qa(d:Nat)(e:Nat->Int)(j:d<=1048576):bG (ι:={f:Nat // f<=1048576}) q 12 [aL (.M m 1 d (j_ e))] [] (λ_=>ba 0 0) (λf=>[dD f.1 e 0]):=by
 refine bG.cO func12 rfl rfl rfl λn=>?_;by_cases o:2000<d
 .refine a_ [5] a cb (g.bq [dD 2000 e 0] a ?_ (g.bS ⟨2000,by decide⟩ (g.aQ [0] a ?_ (λl h=>by grind))))
  .simp[b4,gR,cE]
  simp
 exact a_ [-5] a cb (g.bS ⟨d,j⟩ (g.aQ [0] a Q (λl h=>by grind)))
def z2:∀a,a<1->([0]:e Nat)[a]?=b a:=cz
def rn:∀a,a<2->([0,1]:e Nat)[a]?=b a:=cz
def fU:e bq->e I
 |[]=>[]
 |a::d=>.int .i64 a.1::ca a.2::fU d
def fO(d:e bq):Prop:=∀a∈d,a9 .i64 a.1/\c a.2<=9223372036854775807
theorem vZ:∀a:e bq,c (fU a)=c a*2
 |[]=>rfl
 |f::d=>by simp only[fU,fR,vZ d];omega
def Fu:∀{l:e bq}{f:Nat},f<c l->(fU l)[f*2]?=b (.int .i64 (l.getD f (0,[])).1)/\(fU l)[f*2+1]?=b (ca (l.getD f (0,[])).2)
 |[],f,a=>absurd a (gY _)
 |g::d,0,_=>⟨rfl,rfl⟩
 |g::d,f+1,a=>by rw[show(f+1)*2=f*2+1+1 by omega];exact Fu (l:=d) (f:=f) J
def z5:∀d a:e bq,fU (d++a)=fU d++fU a
 |[],a=>rfl
 |f::d,a=>by simp only[sO,fU,z5 d a]
theorem Fv:∀(d:e bq)(a:Nat)(f:bq),a<c d->fU (d.set a f)=(fU d).take (a*2)++[.int .i64 f.1,ca f.2]++(fU d).drop (a*2+2)
 |[],a,f,g=>absurd g (gY _)
 |h::d,0,f,_=>by simp[fU]
 |h::d,a+1,f,g=>by rw[List.set_cons_succ,fU,Fv d a f J,fU,show(a+1)*2=a*2+1+1 by omega,show a*2+1+1+2=(a*2+2)+1+1 by omega];simp
theorem z6{a:e bq}(q:fO a):fM 2 (c a) (bS.fn a) (fU a):=by
 refine⟨vZ a,λf _=>rfl,λf g r s d=>?_⟩;obtain⟨l,n⟩:=Fu g;obtain⟨p,h⟩:=q (a.getD f (0,[])) J;have o:bS.fn a f=[.int .i64 (a.getD f (0,[])).1,.R (a.getD f (0,[])).2]:=rfl;rw[o]at d
 match r,d with
 |0,d=>cases d;exact⟨_,l,λj=>Rd.int p⟩
 |1,d=>cases d;exact⟨_,n,λj=>Rd.R J h⟩
abbrev gq(a:I):s:=aL (.val a)
abbrev ao(a:dy)(f:Nat)(d:e bq):Y:=.Q (cg 87 2 a f (fU d))
abbrev hy(d:Nat)(a:dy)(e:Nat):Y:=.Q (dY d 178 (cT a e))
abbrev q7(a:bq):s:=aL (.b' 87 [.int .i64 a.1,.R a.2])
abbrev vG(a:bq):s:=.k (.agg [.c (.int .i64 a.1),.c (.R a.2)])
theorem WC{a:bq}(o:mM z [.c (.int .i64 a.1),.c (.R a.2)]):z=[.int .i64 a.1,ca a.2]:=by
 obtain⟨j,f⟩:=o
 match z,j with
 |[r,s],_=>
  obtain⟨q,h,d⟩:=f 0 _ rfl;obtain⟨p,l,e⟩:=f 1 _ rfl;cases h;cases l;have g:=d λ_ _=>k;have n:=(r3 (e λ_ _=>k)).1;cases g;rw[n]
def MB{d e:Z}(f:r.op=.call {callee:=.builtin .append,args:=#[d,e],argTypes:=#[178,178]}):h9 R r d e 87 kk:=
 ⟨⟨178,178,Ai,Ai,f,(bv _ _ a),rfl,(bv _ _ a),rfl⟩,(bv _ _ a),by decide,by decide⟩
def zE(d:dy)(f:Nat)(h:e bq):ad q 126 [gq (cT d f)] [ao d f h] (S f) [ao d f h]:=by refine ad.E func126 rfl λj=>?_;refine is [] 7 a M ?_;refine g.jd bv 0 a a a a a a a a ?_;exact a8 a M (g.aQ [0] a a z2)
def zF(h d:Nat){l:e bq}(p:fO l)(s:Nat)(j:f<c l)(o:y<c l):ad q 289 [gq (cT (.row h d) (c l)),S f,S y] [ao (.row h d) (c l) l] (bm (decide ((l.getD f (0,[])).1<(l.getD y (0,[])).1))) [ao (.row h d) (c l) l]:=by
 refine ad.E func289 rfl λr=>?_
 have n:=z6 p;refine a_ [901] a M ?_;refine g.fT c5 [gq (cT (.row h d) (c l)),S f,gq (.pointer (b ⟨h,0+(f:Int).toNat*2,k⟩)),gq (.pointer (b ⟨h,0+(f:Int).toNat*2+0,k⟩)),S (l.getD f (0,[])).1,gq (cT (.row h d) (c l)),S y,gq (.pointer (b ⟨h,0+(y:Int).toNat*2,k⟩)),gq (.pointer (b ⟨h,0+(y:Int).toNat*2+0,k⟩)),S (l.getD y (0,[])).1,bm (decide ((l.getD f (0,[])).1<(l.getD y (0,[])).1))] 10 a a a a a ⟨
  a0.x,a0.x,a0.eval (bK:=[]) bv a3.nil a bx,a0.x,
  a0.aT (jY a) (aR.eR (l:=0) (f:=f) (ac:=0) bv a a Q a n a a j),
  a0.x,a0.x,a0.eval (bK:=[]) bv a3.nil a bx,a0.x,
  a0.aT (jY a) (aR.eR (l:=0) (f:=y) (ac:=0) bv a a Q a n a a o),
  a0.x,M⟩ ?_
 exact a8 a M (g.aQ [0] a a z2)
def Ig{n s:Z}{cap:Nat}{d:e bq}{l:bq}(x:r.op=.store w n s)(u:bY ew w=b kk)(g:off=f*2)(v:bA F n=ce (.pointer (b ⟨j,off,k⟩)))(t:kA (bA F s)=b [.c (.int .i64 l.1),.c (.R l.2)])(C:c d=p)(y:f<c d)(A:r.guard=k):
  a0 q B all r F [ao (.row j cap) p d] .any [ao (.row j cap) p (d.set f l)]:=by subst g;have z:=d_.fC (B:=B) (h:=[ao (.row j cap) p d]) bv 0 (T:=87) (o:=2) (p:=p) (j:=j) (cap:=cap) (off:=f*2) (O:=fU d) x u v t a a a (by grind[vZ]);grind[WC,Fv,a0.eU]
abbrev Ij(f a:Nat)(d:e bq)(g h:Nat)(j l:Bool):e Y:=match j with
 |false=>[ao (.row f a) (c d) d]
 |true=>match l with
  |false=>[ao (.row f a) (c d) (d.set g (d.getD h (0,[])))]
  |true=>[ao (.row f a) (c d) (iw d g h)]
def zG(j d:Nat){l:e bq}(p:fO l)(h:f<c l)(o:y<c l):ad q 292 [gq (cT (.row j d) (c l)),S f,S y] [ao (.row j d) (c l) l] (.C []) [ao (.row j d) (c l) (iw l f y)]:=by
 refine ad.E func292 rfl λu=>?_;have t:=z6 p;refine a_ [900] a M ?_;let O:Nat->s:=λr=>([gq (cT (.row j d) (c l)),S f,gq (cT (.row j d) (c l)),S y,gq (cT (.row j d) (c l)),S y,gq (.pointer (b ⟨j,0+(y:Int).toNat*2,k⟩)),vG (l.getD y (0,[])),gq (cT (.row j d) (c l)),S f,gq (.pointer (b ⟨j,0+(f:Int).toNat*2,k⟩)),vG (l.getD f (0,[])),gq (.pointer (b ⟨j,0+(f:Int).toNat*2,k⟩)),.any,gq (.pointer (b ⟨j,0+(y:Int).toNat*2,k⟩))]:e s).getD r .any
 refine g.dP c5 O (oR (Ij j d l f y) 13 15) a a a a ⟨
  .bP,.bP,.bP,.bP,.bP,.bP,
  .dx bv a3.nil,
  cW.gX a a a a (a0.aT (jY a) (aR.eR (l:=0) (f:=y) (ac:=0) bv a a Q a t a a o)),
  .bP,.bP,
  .dx bv a3.nil,
  cW.gX a a a a (a0.aT (jY a) (aR.eR (l:=0) (f:=f) (ac:=0) bv a a Q a t a a h)),
  .dx bv a3.nil,
  cW.jO a a ?_,
  .dx bv a3.nil,
  cW.jP a a ?_,M⟩ ?_
 .exact Ig a a Q a a a h a
 .exact Ig a a Q a a Q J a
 intro s n;show g q _ _ _ _ _ (Ij j d l f y (s 13) (s 15));rw[n 13 cz,n 15 cz];exact b3.b_ [0] a M a a a z2
def O2(h:Nat)(b':dy){l:e bq}(A:fO l)(C:c l<=1000){d:bq}(B:c d.2<=9223372036854775807):
  bG (ι:=dy) q 291 [gq (.pointer (b ⟨h,0,k⟩)),q7 d] [hy h b' (c l),ao b' (c l) l] (λ_=>.C []) (λf=>[hy h f (c l+1),ao f (c l+1) (l++[d])]):=by
 refine bG.cO func291 rfl rfl rfl λz=>?_;refine a_ [900] a M ?_;have o:=r1 b' (c l);refine g.eV (ι:=dy) c5 7 8 10 (λn=>aD n 6) (λn=>([gq (.pointer (b ⟨h,0,k⟩)),gq (.pointer (b ⟨h,0,k⟩)),gq (.pointer (b ⟨h,0,k⟩)),gq (cT b' (c l)),q7 d,vG d,aL (.M i 2 1 λt=>([[.int .i64 d.1,.R d.2]]:e (e D)).getD t [])]:e s).getD n .any) (λf _=>gq (cT f (c l+1))) (λf=>[hy h b' (c l),.Q (cg 87 2 f (c l+1) (fU l++[.int .i64 d.1,ca d.2]))])
  rfl rfl rfl rfl rfl rfl rfl (λn y=>by exact ky) rfl
  ⟨a0.x,a0.x,a0.aT (jY a) (aR.du a a),a0.ej bv 0 a a a a a o a,a0.x,a0.aT (jY a) (aR.fL (aY:=[.int .i64 d.1,.R d.2]) bv a a a a),a0.x,M,M,M,M⟩
  (λf=>⟨a0.x,a0.x,a0.aT (jY a) (aR.du a a),a0.ej bv 0 a a a a a o a,a0.x,a0.aT (jY a) (aR.fL (aY:=[.int .i64 d.1,.R d.2]) bv a a a a),a0.x,M,M⟩)
  (d'.eU a (d_.e7 (l:=1) (b':=b') (O:=fU l) (p:=c l) (dQ:=[.int .i64 d.1,ca d.2]) (MB a) a a a a a (λw E u x j v=>?_) Cx)) λf=>?_
 .match u,j with
  |0,j=>cases j;cases v;exact bH
  |1,j=>grind[r3]
 have r:=r1 f (c l+1);refine g.aI (aR.du a a) a a ?_;refine g.hI bv 0 a a a a a (by cases f<;>rfl) r a a a ?_;refine a8 a M ⟨f,b3.b_ [0,1] a M ?_ a a rn⟩;show b [_,Y.Q (cg _ _ _ _ (fU l++_))]=b [_,Y.Q (cg _ _ _ _ (fU (l++[d])))];rw[z5];rfl
def cg.cut{a:Nat}{d:e bq}{l:bq}(p:cg T 2 (.row j a) (c d+1) (fU (d++[l])) ai eb):cg T 2 (.row j a) (c d) (fU d) ai eb:=by obtain⟨f,g,u,s,o,h,r,t⟩:=p;rw[z5]at *;refine⟨f,λq n=>g q (yg _ n),vZ d,by omega,o,fU [l]++h,J,?_⟩;grind
def O1(n h d:Nat){l:e bq}{j:bq}(u:fO (l++[j]))(v:c l<=1000)(o:c l+1<=d):
  ad q 290 [gq (.pointer (b ⟨n,0,k⟩))] [hy n (.row h d) (c l+1),ao (.row h d) (c l+1) (l++[j])] (q7 j) [hy n (.row h d) (c l),ao (.row h d) (c l) l]:=by
 refine ad.E func290 rfl λt=>?_;have p:fM 2 (c l+1) (bS.fn (l++[j])) (fU (l++[j])):=by grind[z6,List.length_append]
 refine a8 a M (g.aI (aR.du a a) a a ?_);refine g.S (a0.ej bv 0 a a a a a a a) a ?_;refine a8 a bH (g.aI (aR.du a a) a a ?_);refine g.S (a0.ej bv 0 a a a a a a a) a ?_;refine a8 a bx (g.aI (aR.eR (l:=1) (f:=c l) (ac:=0) bv a a (by simp[show kk.size=2 from a]) a p a a Q) a a ?_);refine a8 a M (g.aI (aR.du a a) a a ?_);refine g.S (a0.ej bv 0 a a a a a a a) a ?_;refine a8 a M (g.aI (aR.jX bv a a a a a a o x x) a a ?_);rw[show(((c l+1:Nat):Int)-1).toNat=c l from by omega];refine g.aI (aR.du a a) a a ?_;refine g.hI bv 0 a a a a a a a a a a ?_;refine is [] 2 a M (g.ez (ι:=Unit) 1 (λ_=>cg 87 2 (.row h d) (c l) (fU l)) a (λw r s=>⟨(),cg.cut s⟩) λ_=>?_);refine a8 a M (g.aQ [0,1] a ?_ rn);simp
abbrev q8(a:Nat):s:=aL (.bR 177 (.val (.pointer (b ⟨a,0,k⟩))))
section
variable {h:e Y}{l X p:Nat}{b':dy}(t:cH l h=b (hy X b' p))
include t
def Fo:mC R h 177 (.pointer (b ⟨X,0,k⟩)) "Len" 126 (cT b' p):=.deref bv (kl type177) rfl rfl rfl underlying177 t rfl (r1 b' p) rfl
def zV:mC R h 177 (.pointer (b ⟨X,0,k⟩)) "Less" 289 (cT b' p):=.deref bv (kl type177) rfl rfl rfl underlying177 t rfl (r1 b' p) rfl
def zW:mC R h 177 (.pointer (b ⟨X,0,k⟩)) "Swap" 292 (cT b' p):=.deref bv (kl type177) rfl rfl rfl underlying177 t rfl (r1 b' p) rfl
end
def Re{d:e Y}{a:I}:mC R d 177 a "Push" 291 a:=.ptr (kl type177) rfl rfl rfl underlying177
def Rc{d:e Y}{a:I}:mC R d 177 a "Pop" 290 a:=.ptr (kl type177) rfl rfl rfl underlying177
theorem r5{a:e bq}(j:fO a){f y:Nat}(d:f<c a)(g:y<c a):fO (iw a f y):=λl h=>j l (U_ d g h)
theorem BQ:∀(d:Nat)(f:e bq)(a:Nat),a<d->h8 d f a=h8 (a+1) f a
 |0,_,_,h=>absurd h (gY _)
 |d+1,f,a,h=>by
  rw[h8,h8];by_cases g:(a-1) / 2=a
  .grind
  rw[bp g,bp g];split
  .have u:(a-1) / 2<a:=x;rw[BQ d _ _ x,BQ a _ _ u]
  simp
def O3(p j f:Nat){l:e bq}(w:fO l)(N:c l<=1000){y:Nat}(C:y<c l):
  ad q 154 [q8 p,S y] [hy p (.row j f) (c l),ao (.row j f) (c l) l] (.C []) [hy p (.row j f) (c l),ao (.row j f) (c l) (h8 (y+1) l y)]:=by
 refine ad.E func154 rfl λK=>?_;refine is [] 3 a M (g.db 2 [0] (λd:e bq×Nat=>fO d.1/\c d.1=c l/\d.2<c l/\h8 (y+1) l y=h8 (d.2+1) d.1 d.2) (λd=>[(1,S d.2)]) (λd=>[hy p (.row j f) (c d.1),ao (.row j f) (c d.1) d.1]) (λd=>d.2) (l,y) a Q a Q a ⟨w,a,C,a⟩ ?_);rintro⟨d,h⟩ ⟨t,E,F,n⟩;simp only at t E F n;cases h with
 |zero=>
  have s:h8 (0+1) d 0=d:=by rw[h8,bF a]
  rw[s]at n;rw[n];refine is [] 5 a kU (g.aI (Gb (o:=.i64) 0 a a a kU (λI=>rfl) (λI=>rfl)) a a ?_);refine a_ [11,17] a Q (g.aA ?_);exact JN
 |succ h=>
  refine a_ [-11,901] a ky ?_;have D:(((h+1:Nat):Int)-1) / 2=((h / 2:Nat):Int):=x;rw[D];have B:(h+1-1) / 2=h / 2:=J;have v:h / 2<c d:=x;have u:h+1<c d:=x;have s:h8 (h+1+1) d (h+1)=if mi d (h+1) (h / 2)=i then h8 (h+1) (iw d (h / 2) (h+1)) (h / 2)else d:=by rw[h8,bp x,B]
  rw[s]at n;refine g.region ?_;refine a_ [-11] a bx (g.cV (zF j f t (c d) u v).tocm [1] (zV (l:=0) a) a a a a a a a a bN a bN a λ_=>?_);by_cases r:mi d (h+1) (h / 2)=i
  .rw[bF r]at n;have A:=sN r;refine a_ [-17] a dX (g.cV (zG j f t v u).tocm [1] (zW (l:=0) a) a a a a a a a a bN a bN a λ_=>?_);refine a8 a M (g.av (iw d (h / 2) (h+1),h / 2) a Q ?_ ?_ ?_)
   .simp[og]
   .grind [r5,og,BQ]
   grind
  rw[bp r]at n;rw[n];have A:¬(d.getD (h+1) (0,[])).1<(d.getD (h / 2) (0,[])).1:=λz=>r (gf z);refine a_ [17] a dX (g.aA ?_);exact JN
def FN{n:e Y}{f p:Nat}{b':dy}{l:e bq}(u:cH f n=b (ao b' p l))(t:0<p)(j:aj)(h:aZ n j):∃g d,b'=.row g d/\p<=d:=by
 have o:=dL u;obtain⟨g,d,rfl⟩:=(cg.len o j h).2.2.1 t;have q:f<c j.m:=by rw[h.len];grind
 obtain⟨r,s,_⟩:=h.box f _ _ o (bu q);exact⟨g,d,a,s.2.2.2.1⟩
def Pb(h:Nat)(b':dy){l:e bq}(o:fO l)(D:c l<=100){A:bq}(w:a9 .i64 A.1/\c A.2<=9223372036854775807):
  bG (ι:=dy) q 124 [q8 h,q7 A] [hy h b' (c l),ao b' (c l) l] (λ_=>.C []) (λj=>[hy h j (c l+1),ao j (c l+1) (gU l A)]):=by
 refine bG.cO func124 rfl rfl rfl λC=>?_;refine a8 a M (g.cV (O2 h b' o x w.2) [0,1] Re a a a a a a a a bN a bN a λj=>?_);have t:fO (l++[A]):=λz u=>by
  rcases fu.1 u with s|s
  .exact o z s
  grind
 refine g.fV (FN (f:=1) (p:=c l+1) (b':=j) (l:=l++[A]) a x) λv=>?_;obtain⟨n,d,rfl,B⟩:=v;refine a8 a M (g.cV (zE (.row n d) (c l+1) (l++[A])).tocm [1] (Fo (l:=0) a) a a a a a a a a bN a bN a λ_=>?_);refine a8 a bH ?_;rw[show((c l+1:Nat):Int)-1=(c l:Nat) by omega];have r:=O3 (q:=q) h n d t J (y:=c l) Q;rw[dZ,iE]at r;exact g.aF r [0,1] a (a8 a M ⟨.row n d,b3.b_ [0,1] a M a a a rn⟩)
theorem vM:∀(g h:Nat)(f:e bq)(a d:Nat),d<=a+g->d<=a+h->gr g f a d=gr h f a d
 |0,0,_,_,_,_,_=>rfl
 |0,h+1,f,a,d,j,_=>by rw[gr,gr,bF x]
 |g+1,0,f,a,d,_,j=>by rw[gr,gr,bF x]
 |g+1,h+1,f,a,d,n,o=>by
  have l:a<io f a d:=Co;rw[gr,gr];split
  .rfl
  split
  .exact vM g h _ _ _ x x
  simp
def O0(t n h j:Nat){l:e bq}(F:fO l)(R:j<=c l)(W:c l<=1000):
  ad q 158 [q8 t,S 0,S j] [hy t (.row n h) (c l),ao (.row n h) (c l) l] .any [hy t (.row n h) (c l),ao (.row n h) (c l) (gr j l 0 j)]:=by
 refine ad.E func158 rfl λC=>?_;refine cq a M (g.db 2 [0,1,2] (λd:e bq×Nat=>fO d.1/\c d.1=c l/\d.2<=j/\gr j l 0 j=gr j d.1 d.2 j) (λd=>[(7,S d.2)]) (λd=>[hy t (.row n h) (c d.1),ao (.row n h) (c d.1) d.1]) (λd=>j-d.2) (l,0) a Q a Q a ⟨F,a,by omega,a⟩ ?_);rintro⟨d,f⟩ ⟨v,J,O,p⟩;simp only at v J O p;by_cases E:j<=2*f+1
 .have w:gr j d f j=d:=by rw[vM j (j+1) _ _ _ x x,gr,bF E]
  rw[w]at p;rw[p];refine a_ [17,21] a LM (g.aA ?_);exact Jn
 have z:f<io d f j/\io d f j<j:=Co;have w:gr j d f j=if mi d (io d f j) f=i then gr j (iw d f (io d f j)) (io d f j) j else d:=by rw[vM j (j+1) _ _ _ x x,gr,bp E]
 rw[w]at p;have I:2*f+1<c d:=x;have B:f<c d:=x;have A:2*(f:Int)+1=((2*f+1:Nat):Int):=x;have K:((2*f+1:Nat):Int)+1=((2*f+2:Nat):Int):=x;refine a_ [-17,-21,904] a LL ?_;rw[A];refine a_ [906] a LL ?_;rw[K];apply g.b5 [(0,q8 t),(1,S 0),(2,S j),(7,S f),(9,S (io d f j))] [hy t (.row n h) (c d),ao (.row n h) (c d) d]
 .intro c8;by_cases D:2*f+2<j
  .refine g.region ?_;refine a_ [28] a bx (g.cV (zF n h v (c d) (f:=2*f+2) (y:=2*f+1) x I).tocm [1] (zV (l:=0) a) a a a a a a a a bN a bN a λ_=>?_);by_cases o:mi d (2*f+2) (2*f+1)=i
   .have r:io d f j=2*f+2:=bF ⟨D,o⟩;refine a_ [33,908] a (by simpa using sN o) (c8 _ _ a ?_);simp[r]
   have r:io d f j=2*f+1:=bp λs=>o s.2;have N:¬(d.getD (2*f+2) (0,[])).1<(d.getD (2*f+1) (0,[])).1:=λs=>o (gf s);refine a_ [-33,908] a B0 (c8 _ _ a ?_);simp[r]
  have r:io d f j=2*f+1:=bp λs=>D s.1;refine a_ [-28,-33,908] a bx (c8 _ _ a ?_);simp[r]
 generalize io d f j=u at *;obtain⟨U,T⟩:=z;refine g.region ?_;refine a8 a M (g.cV (zF n h v (c d) (f:=u) (y:=f) x B).tocm [1] (zV (l:=0) a) a a a a a a a a bN a bN a λ_=>?_);by_cases o:mi d u f=i
 .rw[bF o]at p;refine a_ [-39] a (by simpa using sN o) (g.cV (zG n h v B (show u<c d by omega)).tocm [1] (zW (l:=0) a) a a a a a a a a bN a bN a λ_=>?_);refine a8 a M (g.av (iw d f u,u) a Q ?_ ?_ ?_)
  .simp[og]
  .grind [r5,og]
  grind
 rw[bp o]at p;rw[p];have N:¬(d.getD u (0,[])).1<(d.getD f (0,[])).1:=λs=>o (gf s);refine a_ [39] a B0 (g.aA ?_);exact Jn
def zz{p:Nat}:∀(g:Nat){a:e bq}(f:Nat),fO a->f<c a->p<=c a->fO (gr g a f p)
 |0,_,_,d,_,_=>d
 |g+1,a,f,d,h,l=>by
  rw[gr];split
  .exact d
  have j:io a f p<p:=Co;split
  .exact zz g _ (r5 d h x) oo oo
  grind
def Pa(j h d:Nat){l:e bq}{p:Nat}(r:fO l)(v:c l=p+1)(B:p<=100)(w:p+1<=d):
  ad q 127 [q8 j] [hy j (.row h d) (p+1),ao (.row h d) (p+1) l] (q7 ((gw l).getD p (0,[]))) [hy j (.row h d) p,ao (.row h d) p ((gw l).take p)]:=by
 refine ad.E func127 rfl λD=>?_;refine a8 a M (g.cV (zE (.row h d) (p+1) l).tocm [1] (Fo (l:=0) a) a a a a a a a a bN a bN a λ_=>?_);refine a8 a bH ?_;rw[show((p+1:Nat):Int)-1=((p:Nat):Int) by omega];have u:=zG (q:=q) h d r (f:=0) (y:=p) x x;rw[v]at u;refine g.cV u.tocm [1] (zW (l:=0) a) a a a a a a a a bN a bN a λ_=>?_;have s:=r5 r (f:=0) (y:=p) x x;have o:=O0 (q:=q) j h d p s oo oo;have n:=zz (p:=p) p 0 s oo oo;have t:gr p (iw l 0 p) 0 p=gw l:=by unfold gw;grind[vM]
 rw[og,v,t]at o;rw[t]at n;have A:gw l=(gw l).take p++[(gw l).getD p (0,[])]:=by
  have E:c (gw l)=p+1:=by grind[Hi]
  apply pD
  .grind
  grind
 generalize(gw l).getD p (0,[])=F at *;have z:c ((gw l).take p)=p:=J;generalize(gw l).take p=C at *;rw[A]at o n;subst z;refine a8 a M (g.aF o [0,1] a (a8 a M (g.cV (O1 j h d n x w).tocm [0,1] Rc a a a a a a a a bN a bN a λ_=>?_)));refine a8 a M (g.aQ [0,1] a Q rn)
def ST{g:ab}{e f:Z}(n:r.op=.binOp op w e f ty){s:Bool}{x:Array (String×ab)}(U:P.underlying w=b (.interface x))(z:η e=aL .bk)(y:η f=aL (.val (.iface g ai)))(t:∀K,(eqGuard op w e f .nilIface (.iface g ai)).run P K=.ok () K)(ac:∀K a,(eqGuard op w e f .nilIface (.iface g ai)).events P K a=a)(l:hn op m=b s):aR P r η h (aL (.bool s)) h:=by
 refine .aS λd u C v=>?_;have q:=v e;have p:=v f;rw[z]at q;rw[y]at p;replace q:=b2 q;replace p:=b2 p;generalize j:u e=A at q;generalize N:u f=B at p;cases q;cases p;have o:(Op.equal w .nilIface (.iface g ai)).run P d.a=.ok m d.a:=Ls;have X:∀a,(Op.equal w .nilIface (.iface g ai)).events P d.a a=a:=λa=>by show(aM (9999+1) w _ _).events P d.a a=a;unfold aM;simp[underlying,U]
 cases op<;>simp only[hn,reduceCtorEq,eA]at l
 .exact K6
 exact KG
abbrev NA(a:I):s:=aL (.val a)
def ET(d:ab)(e:I):ad q 151 [aL .bk,NA (.iface d e)] [] (bm m) []:=by refine ad.E func151 rfl λf=>?_;refine a8 a M ?_;refine g.aI (AJ a underlying50 a a a) a a ?_;refine a_ [11] a Q ?_;refine g.aI (ST a underlying50 a a bN (λ_ _=>rfl) a) a a ?_;exact a8 a M (g.an a a)
abbrev gB(d a:ab×I):e Y:=[.Q (dY 1 50 (.iface d.1 d.2)),.Q (dY 2 50 (.iface a.1 a.2))]
def oP:∀a,a<2->([0,1]:e Nat)[a]?=b a:=cz
def zK(j h:ab×I)(e:Int)(f:an)(l:cB e=i)(o:cp f=i):ad q 120 [S e,bC f] (gB j h) (S (dF e f)) (gB j h):=by refine ad.E func120 rfl λn=>?_;have d:a3 q [(150,eK dc dT (λe f=>zx (dF e f)) λe f=>[cB e=i,cp f=i])]:=.cons BC .nil;refine cu d a dX ?_;refine g.S (a0.gb bv 0 a a a a a a) a ?_;refine g.aF (ET _ _) [] a ?_;refine cu d a M ?_;refine g.S (a0.gb bv 1 a a a a a a) a ?_;refine g.fS (ET _ _) [] a a a a a a a a a a a ?_;exact a4 d [-20] a Q (g.aQ [0,1] a a oP)
end
section
open Go.Sort (swp insInner insOuter insertionSort)
variable {q:al R}
abbrev h0(a d:an):Bool:=aK a d
def Pw(d:an):ad q 208 [bC d] [] (bm m) []:=by refine ad.E func208 rfl λe=>?_;exact a_ [-5] a Q (g.an a)
abbrev M7:bB:=df dT (λ_=>bm m) λ_=>[]
def PN(d e:an):ad q 166 [bC d,bC e] [] (bm (h0 d e)) []:=by have f:a3 q [(208,M7)]:=.cons (.a3 λh _=>Pw h) .nil;refine ad.E func166 rfl λj=>?_;refine cu f a Q (g.an a ?_);simp[h0]
abbrev M6:bB:=eK dT dT (λa d=>bm (h0 a d)) λ_ _=>[]
def mW(a:Array an)(d:Nat):e D:=[.R a[d]!]
abbrev q'(a:Nat):s:=dR 0 (.M a 1 0 a)
abbrev nE(d:Nat)(a:Array an):Y:=.A 9 1 d (mW a)
def z4:∀a,a<1->([0]:e Nat)[a]?=b a:=λa d=>by grind
def NU{a:Array an}(r:a.size=p)(n:f<p)(o:y<p){h:Nat->e D}(j:b4 p h (mW a)):b4 p (kq y [.R a[f]!] (kq f [.R a[y]!] h)) (mW (swp a f y)):=by
 intro d g;have q:(swp a f y)[d]! = if d=y then a[f]! else if d=f then a[y]! else a[d]! := by unfold swp;grind
 have l:=j d g;simp only[mW,kq]at l⊢;grind
theorem Uz(a:Array an)(d e:Nat):(swp a d e).size=a.size:=by simp[swp]
theorem Sf{d:Nat}{a:Array an}(e:d<y)(j:h0 a[y]! a[y-1]! = i):insInner h0 d y a=insInner h0 d (y-1) (swp a y (y-1)):=by
 cases y with
 |zero=>omega
 |succ y=>
  exact J0
def Ga{d:Nat}{a:Array an}(n:d<y->h0 a[y]! a[y-1]! = m):insInner h0 d y a=a:=by
 cases y with
 |zero=>rfl
 |succ y=>
  exact Jm
def Pr(f:Nat)(p:Array an)(e h:Nat)(A:p.size=f)(I:h<=f)(F:e<=f)(J:f<=4000000):
  ad q 160 [q' f,S e,S h] [nE f p] (.C []) [nE f (insertionSort h0 p e h)]:=by
 have u:a3 q [(166,M6)]:=.cons (.bf λv D _=>PN v D) .nil;refine ad.E func160 rfl λE=>?_;refine a8 a bH (g.aN 1 (λd:Nat×Array an=>d.2.size=f/\e+1<=d.1/\d.1<=f+1/\insOuter h0 e h d.1 d.2=insertionSort h0 p e h) (λd=>[(0,q' f),(1,S e),(2,S h),(6,S d.1)]) (λd=>[nE f d.2]) (λd=>h-d.1) (e+1,p) a Q a Q a ⟨A,by omega,by grind,a⟩ ?_);rintro⟨j,d1⟩ ⟨y,t,z,ak⟩;simp only at y t z ak;by_cases n:j<h
 .refine a_ [12] a cb (g.aN 1 (λd:Nat×Array an=>d.2.size=f/\d.1<=j/\insInner h0 e d.1 d.2=insInner h0 e j d1) (λd=>[(0,q' f),(1,S e),(2,S h),(6,S j),(7,S d.1)]) (λd=>[nE f d.2]) (λd=>d.1) (j,d1) a Q a Q a ⟨y,by simp,a⟩ ?_);rintro⟨l,d2⟩ ⟨r,B,s⟩;simp only at r B s;by_cases C:e<l
  .have o:((l:Int)-1).toNat=l-1:=x;by_cases w:h0 d2[l]! d2[l-1]! = i
   .refine a4 u [18,29] a ?_ ?_
    .simp[a9,o,w];omega
    refine g.av (l-1,swp d2 l (l-1)) a cb ?_ ?_ ?_
    .simp only[V.W,V,o,cX,dB,bl,bn];exact NU r x x (λ_ _=>rfl)
    .refine⟨by grind[Uz],by omega,?_⟩;grind[Sf]
    omega
   refine a4 u [18,-29] a ?_ (g.aA ?_)
   .simp[a9,o,w];omega
   refine a8 a bH (g.av (j+1,d2) a Q Q ?_ ?_)
   .refine⟨r,by omega,by grind,?_⟩;simp only;rw[<-ak,insOuter.eq_1 h0 e h j,bF n,<-s,Ga λ_=>by grind]
   omega
  refine a4 u [-18] a bx (g.aA ?_);refine a8 a bH (g.av (j+1,d2) a Q Q ?_ ?_)
  .refine⟨r,by omega,by grind,?_⟩;simp only;rw[<-ak,insOuter.eq_1 h0 e h j,bF n,<-s,Ga λv=>absurd v C]
  omega
 refine a_ [-12] a cb (g.aA ?_);have:insertionSort h0 p e h=d1:=Jb;rw[this];exact b3.b_ [0] a M a a a z4
end
section
open Go.Sort (swp insInner insOuter ltInt)
variable {q:al R}
def Pv(d:Int):ad q 215 [S d] [] (bm m) []:=by refine ad.E func215 rfl λe=>?_;exact a_ [-5] a Q (g.an a)
abbrev DH:bB:=df dc (λ_=>bm m) λ_=>[]
def VT:bI q 215 DH:=.a3 λa _=>Pv a
def PM(d e:Int):ad q 183 [S d,S e] [] (bm (ltInt d e)) []:=by have f:a3 q [(215,DH)]:=.cons VT .nil;refine ad.E func183 rfl λh=>?_;refine cu f a Q (g.an a ?_);simp[ltInt]
abbrev oI:bB:=eK dc dc (λa d=>bm (ltInt a d)) λ_ _=>[]
def qn:bI q 183 oI:=.bf λa d _=>PM a d
def ra(a:Array Int)(d:Nat):e D:=[.int .i64 a[d]!]
abbrev dw(a:Nat):s:=dR 0 (.M a 1 0 a)
abbrev cw(d:Nat)(a:Array Int):Y:=.A 3 1 d (ra a)
def gN:∀a,a<1->([0]:e Nat)[a]?=b a:=λa d=>by grind
end
section
open Go.Sort (swp insInner insOuter insertionSort ltInt)
variable {q:al R}
def kb{a:Array Int}(r:a.size=p)(n:f<p)(o:y<p){h:Nat->e D}(j:b4 p h (ra a)):b4 p (kq y [.int .i64 a[f]!] (kq f [.int .i64 a[y]!] h)) (ra (swp a f y)):=by
 intro d g;have q:(swp a f y)[d]! = if d=y then a[f]! else if d=f then a[y]! else a[d]! := by unfold swp;grind
 have l:=j d g;simp only[ra,kq]at l⊢;grind
theorem mr(a:Array Int)(d e:Nat):(swp a d e).size=a.size:=by simp[swp]
theorem Se{d:Nat}{a:Array Int}(e:d<y)(j:ltInt a[y]! a[y-1]! = i):insInner ltInt d y a=insInner ltInt d (y-1) (swp a y (y-1)):=by
 cases y with
 |zero=>omega
 |succ y=>
  exact J0
def F'{d:Nat}{a:Array Int}(n:d<y->ltInt a[y]! a[y-1]! = m):insInner ltInt d y a=a:=by
 cases y with
 |zero=>rfl
 |succ y=>
  exact Jm
theorem Pq(f:Nat)(p:Array Int)(e h:Nat)(z:p.size=f)(F:h<=f)(E:e<=f)(I:f<=4000000):
  ad q 177 [dw f,S e,S h] [cw f p] (.C []) [cw f (insertionSort ltInt p e h)]:=by
 have u:a3 q [(183,oI)]:=.cons qn .nil;refine ad.E func177 rfl λD=>?_;refine a8 a bH (g.aN 1 (λd:Nat×Array Int=>d.2.size=f/\e+1<=d.1/\d.1<=f+1/\insOuter ltInt e h d.1 d.2=insertionSort ltInt p e h) (λd=>[(0,dw f),(1,S e),(2,S h),(6,S d.1)]) (λd=>[cw f d.2]) (λd=>h-d.1) (e+1,p) a Q a Q a ⟨z,by omega,by grind,a⟩ ?_);rintro⟨j,d1⟩ ⟨w,t,y,ak⟩;simp only at w t y ak;by_cases n:j<h
 .refine a_ [12] a cb (g.aN 1 (λd:Nat×Array Int=>d.2.size=f/\d.1<=j/\insInner ltInt e d.1 d.2=insInner ltInt e j d1) (λd=>[(0,dw f),(1,S e),(2,S h),(6,S j),(7,S d.1)]) (λd=>[cw f d.2]) (λd=>d.1) (j,d1) a Q a Q a ⟨w,by simp,a⟩ ?_);rintro⟨l,d2⟩ ⟨r,A,s⟩;simp only at r A s;by_cases B:e<l
  .have o:((l:Int)-1).toNat=l-1:=x;by_cases v:ltInt d2[l]! d2[l-1]! = i
   .refine a4 u [18,29] a ?_ ?_
    .simp[a9,o,v];omega
    refine g.av (l-1,swp d2 l (l-1)) a cb ?_ ?_ ?_
    .simp only[V.W,V,o,cX,dB,bl,bn];exact kb r x x (λ_ _=>rfl)
    .refine⟨by grind[mr],by omega,?_⟩;grind[Se]
    omega
   refine a4 u [18,-29] a ?_ (g.aA ?_)
   .simp[a9,o,v];omega
   refine a8 a bH (g.av (j+1,d2) a Q Q ?_ ?_)
   .refine⟨r,by omega,by grind,?_⟩;simp only;rw[<-ak,insOuter.eq_1 ltInt e h j,bF n,<-s,F' λ_=>by grind]
   omega
  refine a4 u [-18] a bx (g.aA ?_);refine a8 a bH (g.av (j+1,d2) a Q Q ?_ ?_)
  .refine⟨r,by omega,by grind,?_⟩;simp only;rw[<-ak,insOuter.eq_1 ltInt e h j,bF n,<-s,F' λC=>absurd C B]
  omega
 refine a_ [-12] a cb (g.aA ?_);have:insertionSort ltInt p e h=d1:=Jb;rw[this];exact qq
end
section
open Go.Sort (swp siftDown ltInt)
variable {q:al R}
def Uy{a first root:Nat}{d:Array Int}(e:¬2*root+1<a):siftDown ltInt a first root d=d:=by rw[siftDown,dif_pos x]
theorem H1{a first root:Nat}{d:Array Int}(g:2*root+1<a)(e:2*root+1+1<a->ltInt d[first+(2*root+1)]! d[first+(2*root+1)+1]! = m)(f:ltInt d[first+root]! d[first+(2*root+1)]! = i):
  siftDown ltInt a first root d=siftDown ltInt a first (2*root+1) (swp d (first+root) (first+(2*root+1))):=by rw[siftDown.eq_1 ltInt a first root d,dif_neg x,bp J,bp J]
theorem H2{a first root:Nat}{d:Array Int}(g:2*root+1<a)(e:2*root+1+1<a->ltInt d[first+(2*root+1)]! d[first+(2*root+1)+1]! = m)(f:ltInt d[first+root]! d[first+(2*root+1)]! = m):
  siftDown ltInt a first root d=d:=by rw[siftDown.eq_1 ltInt a first root d,dif_neg x,bp J,bF J]
theorem Uw{a first root:Nat}{d:Array Int}(g:2*root+1+1<a)(e:ltInt d[first+(2*root+1)]! d[first+(2*root+1+1)]! = i)(f:ltInt d[first+root]! d[first+(2*root+1+1)]! = i):
  siftDown ltInt a first root d=siftDown ltInt a first (2*root+1+1) (swp d (first+root) (first+(2*root+1+1))):=by rw[siftDown.eq_1 ltInt a first root d,dif_neg x,bF J,bp J,dif_pos x]
theorem Ux{d first root:Nat}{a:Array Int}(g:2*root+1+1<d)(e:ltInt a[first+(2*root+1)]! a[first+(2*root+1+1)]! = i)(f:ltInt a[first+root]! a[first+(2*root+1+1)]! = m):
  siftDown ltInt d first root a=a:=by rw[siftDown.eq_1 ltInt d first root a,dif_neg x,bF J,bF J]
theorem QI(f:Nat)(l:Array Int)(e d first:Nat)(s:l.size=f)(B:first+d<=f)(v:e<=f)(C:f<=4000000):
  ad q 212 [dw f,S e,S d,S first] [cw f l] (.C []) [cw f (siftDown ltInt d first e l)]:=by
 have n:a3 q [(183,oI)]:=.cons qn .nil;refine ad.E func212 rfl λz=>?_;refine a8 rfl M (g.aN 1 (λh:Nat×Array Int=>h.2.size=f/\h.1<=f/\siftDown ltInt d first h.1 h.2=siftDown ltInt d first e l) (λh=>[(0,dw f),(1,S e),(2,S d),(3,S first),(8,S h.1)]) (λh=>[cw f h.2]) (λh=>d-h.1) (e,l) rfl ?_ rfl ?_ rfl ⟨s,v,rfl⟩ ?_)
 .simp
 .simp
 rintro⟨root,d1⟩ ⟨y,w,p⟩;simp only at y w p;by_cases r:2*root+1<d
 .have u:((first:Int)+(2*(root:Int)+1)).toNat=first+(2*root+1):=x
  have ak:((first:Int)+(2*(root:Int)+1)+1).toNat=first+(2*root+1+1):=x
  by_cases A:2*root+1+1<d
  .by_cases X:ltInt d1[first+(2*root+1)]! d1[first+(2*root+1+1)]! = i
   .have o:((first:Int)+(2*(root:Int)+1+1)).toNat=first+(2*root+1+1):=x
    have t:((first:Int)+(root:Int)).toNat=first+root:=x
    by_cases j:ltInt d1[first+root]! d1[first+(2*root+1+1)]! = i
    .refine bs n [-16,20,35,51] rfl ?_ (g.av (2*root+1+1,swp d1 (first+root) (first+(2*root+1+1))) rfl ?_ ?_ ?_ ?_)
     .exact JD
     .simp
     .simp only[V.W,V,cX,u,ak,t,o,bl,bn];exact kb y x x (λ_ _=>rfl)
     .grind [mr,Uw]
     grind
    rw[pE]at j;rw[show siftDown ltInt d first e l=d1 by grind[Ux]];refine bs n [-16,20,35,-51] a ?_ (g.aV (b3.mk [0] a M a a a gN));exact JD
   rw[pE]at X;have t:((first:Int)+(root:Int)).toNat=first+root:=x
   by_cases j:ltInt d1[first+root]! d1[first+(2*root+1)]! = i
   .refine bs n [-16,20,-35,51] rfl ?_ (g.av (2*root+1,swp d1 (first+root) (first+(2*root+1))) rfl ?_ ?_ ?_ ?_)
    .exact KT
    .simp
    .exact KA
    .grind [mr,H1]
    grind
   rw[pE]at j;rw[show siftDown ltInt d first e l=d1 by grind[H2]];refine bs n [-16,20,-35,-51] a ?_ (g.aV (b3.mk [0] a M a a a gN));exact KT
  have X:True:=M;have t:((first:Int)+(root:Int)).toNat=first+root:=x
  by_cases j:ltInt d1[first+root]! d1[first+(2*root+1)]! = i
  .refine bs n [-16,-20,51] rfl ?_ (g.av (2*root+1,swp d1 (first+root) (first+(2*root+1))) rfl ?_ ?_ ?_ ?_)
   .exact JS
   .simp
   .exact KA
   .grind [mr,H1]
   grind
  rw[pE]at j;rw[show siftDown ltInt d first e l=d1 by grind[H2]];refine bs n [-16,-20,-51] a ?_ (g.aV (b3.mk [0] a M a a a gN));exact JS
 refine a_ [16] a qv (g.aA ?_);rw[<-p,Uy r];exact qq
end
section
open Go.Sort (swp order2 median medianAdjacent choosePivot Hint ltInt)
variable {q:al R}
abbrev k8(a:Nat):Y:=.cells 3 [.c (.int .i64 a)]
abbrev q9:s:=ba 1 0
abbrev VG(a d:Nat):s:=.C [.S (.c (.int .i64 a)),.S (.c (.int .i64 d))]
def vY:∀a,a<2->([0,1]:e Nat)[a]?=b a:=λa d=>by grind
def zM(j:Nat)(h:Array Int)(e f d:Nat)(s:e<j)(t:f<j)(u:j<=4000000)(p:d<=1000):
  ad q 246 [dw j,S e,S f,q9] [cw j h,k8 d] (VG (order2 ltInt h e f d).1 (order2 ltInt h e f d).2.1) [cw j h,k8 (order2 ltInt h e f d).2.2]:=by
 have o:a3 q [(183,oI)]:=.cons qn .nil;refine ad.E func246 rfl λr=>?_;by_cases l:ltInt h[f]! h[e]! = i
 .have n:order2 ltInt h e f d=(f,e,d+1):=by simp[order2,l]
  rw[n];refine bs o [18] a ?_ (g.aQ [0,1] a ?_ vY)
  .simp only[V,cX,dB,l,a9,bn,bl];exact e_
  simp
 have n:order2 ltInt h e f d=(e,f,d):=by simp[order2,l]
 rw[n];rw[pE]at l;refine bs o [-18] a dX (g.aQ [0,1] a ?_ vY);simp
def tX{N:Array Int}{a eI:Nat}(d:a<p)(e:j<p):(order2 ltInt N a j eI).1<p/\(order2 ltInt N a j eI).2.1<p/\(order2 ltInt N a j eI).2.2<=eI+1:=by unfold order2;split<;>simp only<;>omega
theorem EY(f:Nat)(N:Array Int)(d e h eI:Nat)(n:d<f)(o:e<f)(p:h<f)(l:f<=4000000)(s:eI<=900):
  ad q 214 [dw f,S d,S e,S h,q9] [cw f N,k8 eI] (S (median ltInt N d e h eI).1) [cw f N,k8 (median ltInt N d e h eI).2]:=by refine ad.E func214 rfl λt=>?_;have j:=tX (N:=N) (eI:=eI) n o;have r:=tX (N:=N) (eI:=(order2 ltInt N d e eI).2.2) j.2.1 p;refine cq a M (g.aF (zM f N d e eI n o l x) [0,1] a (cq a M (g.aF (zM f N (order2 ltInt N d e eI).2.1 h (order2 ltInt N d e eI).2.2 j.2.1 p l x) [0,1] a (cq a M (g.aF (zM f N (order2 ltInt N d e eI).1 (order2 ltInt N (order2 ltInt N d e eI).2.1 h (order2 ltInt N d e eI).2.2).1 (order2 ltInt N (order2 ltInt N d e eI).2.1 h (order2 ltInt N d e eI).2.2).2.2 j.1 r.1 l x) [0,1] a (cq a M (g.aQ [0,1] a ?_ vY)))))));simp[median]
def SF{N:Array Int}{a d eI:Nat}(f:a<p)(h:j<p)(l:d<p):(median ltInt N a j d eI).1<p/\(median ltInt N a j d eI).2<=eI+3:=by have e:=tX (N:=N) (eI:=eI) f h;have g:=tX (N:=N) (eI:=(order2 ltInt N a j eI).2.2) e.2.1 l;have n:=tX (N:=N) (eI:=(order2 ltInt N (order2 ltInt N a j eI).2.1 d (order2 ltInt N a j eI).2.2).2.2) e.1 g.1;unfold median;grind
theorem PX(h:Nat)(f:Array Int)(d e:Nat)(t:1<=d)(u:d+1<h)(r:h<=4000000)(p:e<=900):
  ad q 213 [dw h,S d,q9] [cw h f,k8 e] (S (medianAdjacent ltInt f d e).1) [cw h f,k8 (medianAdjacent ltInt f d e).2]:=by
 refine ad.E func213 rfl λs=>?_;obtain⟨d,rfl⟩:∃j,d=j+1:=⟨d-1,by omega⟩
 refine cq a bH ?_;have key:∀l n o:Int,l=(d:Int)->n=((d+1:Nat):Int)->o=((d+1+1:Nat):Int)->ad q 214 [dw h,S l,S n,S o,q9] [cw h f,k8 e] (S (median ltInt f d (d+1) (d+1+1) e).1) [cw h f,k8 (median ltInt f d (d+1) (d+1+1) e).2]:=by rintro l n o rfl rfl rfl;exact EY h f d (d+1) (d+1+1) e x x x r p
 refine g.aF (key (((d+1:Nat):Int)-1) _ (((d+1:Nat):Int)+1) x a x) [0,1] a (cq a M (g.aQ [0,1] a ?_ vY));simp[medianAdjacent]
def oW:Hint->Int|.unknown=>0|.increasing=>1|.decreasing=>2
def EZ(d:Nat)(e:Array Int){t u:Nat}(a:Nat)(n:t<d)(p:j<d)(r:u<d)(v:d<=4000000)(l:a<=900){f g h:Int}(s:f=t)(o:g=j)(w:h=u):
  ad q 214 [dw d,S f,S g,S h,q9] [cw d e,k8 a] (S (median ltInt e t j u a).1) [cw d e,k8 (median ltInt e t j u a).2]:=by grind[EY]
def zJ(d:Nat)(e:Array Int){t:Nat}(a:Nat)(h:1<=t)(j:t+1<d)(n:d<=4000000)(g:a<=900){f:Int}(l:f=t):
  ad q 213 [dw d,S f,q9] [cw d e,k8 a] (S (medianAdjacent ltInt e t a).1) [cw d e,k8 (medianAdjacent ltInt e t a).2]:=by grind[PX]
def AB{N:Array Int}{t eI:Nat}(a:1<=t)(d:t+1<p):(medianAdjacent ltInt N t eI).1<p/\(medianAdjacent ltInt N t eI).2<=eI+3:=
 SF x x x
abbrev Af(a:Nat):Hint:=if a=0 then .increasing else if a=12 then .decreasing else .unknown
def Ng{d:Array Int}{a:Nat}(f:8<=l)(e:l<50):choosePivot ltInt d a (a+l)=((median ltInt d (a+l / 4*1) (a+l / 4*2) (a+l / 4*3) 0).1,Af (median ltInt d (a+l / 4*1) (a+l / 4*2) (a+l / 4*3) 0).2):=by unfold choosePivot;grind
abbrev m9(d:Array Int)(a e:Nat):=medianAdjacent ltInt d (a+e / 4*1) 0
abbrev m_(d:Array Int)(a e:Nat):=medianAdjacent ltInt d (a+e / 4*2) (m9 d a e).2
abbrev m'(d:Array Int)(a e:Nat):=medianAdjacent ltInt d (a+e / 4*3) (m_ d a e).2
def Nf{a:Array Int}{d:Nat}(e:50<=l):choosePivot ltInt a d (d+l)=((median ltInt a (m9 a d l).1 (m_ a d l).1 (m' a d l).1 (m' a d l).2).1,Af (median ltInt a (m9 a d l).1 (m_ a d l).1 (m' a d l).1 (m' a d l).2).2):=by unfold choosePivot;grind
def Oj(p:Nat)(N:Array Int)(t j:Nat)(n:t<=j)(v:j<=p)(h:8<=j-t)(e:p<=4000000):
  ad q 180 [dw p,S t,S j] [cw p N] (.C [.S (.c (.int .i64 (choosePivot ltInt N t j).1)),.S (.c (.int .i64 (oW (choosePivot ltInt N t j).2)))]) [cw p N]:=by
 refine ad.E func180 rfl λo=>?_;obtain⟨d,rfl⟩:∃d,j=t+d:=⟨j-t,by omega⟩
 rw[yd]at h;by_cases l:d<50
 .refine b6 [32,-34] a Kw (g.aF (EZ p N (t:=t+d / 4*1) (j:=t+d / 4*2) (u:=t+d / 4*3) 0 x x x e x x x x) [0,1] a ?_);rw[Ng h l];generalize median ltInt N (t+d / 4*1) (t+d / 4*2) (t+d / 4*3) 0=f;by_cases ac:f.2=0
  .exact KM
  by_cases ak:f.2=12
  .exact Ld
  exact Lj
 refine b6 [32,34] a Kw ?_;have r:(m9 N t d).1<p/\(m9 N t d).2<=0+3:=AB (N:=N) (t:=t+d / 4*1) (eI:=0) (p:=p) x x;have s:(m_ N t d).1<p/\(m_ N t d).2<=(m9 N t d).2+3:=AB (N:=N) (t:=t+d / 4*2) (eI:=(m9 N t d).2) (p:=p) x x;have w:(m' N t d).1<p/\(m' N t d).2<=(m_ N t d).2+3:=AB (N:=N) (t:=t+d / 4*3) (eI:=(m_ N t d).2) (p:=p) x x;refine g.aF (zJ p N (t:=t+d / 4*1) 0 x x e x x) [0,1] a (cq a M (g.aF (zJ p N (t:=t+d / 4*2) (m9 N t d).2 x x e x x) [0,1] a (cq a M (g.aF (zJ p N (t:=t+d / 4*3) (m_ N t d).2 x x e x x) [0,1] a (cq a M (g.aF (EZ p N (t:=(m9 N t d).1) (j:=(m_ N t d).1) (u:=(m' N t d).1) (m' N t d).2 x x x e x a a a) [0,1] a ?_))))));rw[Nf x];generalize median ltInt N (m9 N t d).1 (m_ N t d).1 (m' N t d).1 (m' N t d).2=f;by_cases ac:f.2=0
 .exact KM
 by_cases ak:f.2=12
 .exact Ld
 exact Lj
end
section
open Go.Sort (swp reverseLoop reverseRange siftDown heapBuild heapPop heapSort ltInt)
variable {q:al R}
def QD(e:Nat)(j:Array Int)(h f:Nat)(u:j.size=e)(z:1<=f)(y:h<=e)(A:f<=e)(B:e<=4000000):ad q 181 [dw e,S h,S f] [cw e j] (.C []) [cw e (reverseRange j h f)]:=by
 refine ad.E func181 rfl λw=>?_;refine a8 a bH (g.aN 1 (λd:Nat×Nat×Array Int=>d.2.2.size=e/\d.1<=e/\d.2.1<e+1/\d.2.1<e/\reverseLoop d.1 d.2.1 d.2.2=reverseRange j h f) (λd=>[(0,dw e),(6,S d.1),(7,S d.2.1)]) (λd=>[cw e d.2.2]) (λd=>d.2.1-d.1) (h,f-1,j) a cb a Q a ⟨u,by grind,by grind,by grind,a⟩ ?_);rintro⟨l,n,d1⟩ ⟨r,p,_,v,o⟩;simp only at r p v o;by_cases s:l<n
 .refine b6 [13] a ?_ (g.av (l+1,n-1,swp d1 l n) a ?_ ?_ ?_ ?_)
  .simp only[V,cX,dB,a9,bM,bn,bl];exact e_
  .exact bx
  .simp only[V.W,V,cX,dB,bl,bn];exact kb r x x (λ_ _=>rfl)
  .refine⟨by grind[mr],by grind,by grind,by grind,?_⟩;rw[<-o,reverseLoop.eq_1 l n d1,bF s]
  grind
 have t:reverseRange j h f=d1:=by rw[<-o,reverseLoop,bp s]
 rw[t];refine a_ [-13] a cb (g.aA ?_);exact qq
def E_(a:Nat)(d:Array Int){nY bL first:Nat}(h:d.size=a)(n:first+bL<=a)(j:nY<=a)(p:a<=4000000){e f g:Int}(o:e=nY)(l:f=bL)(r:g=first):
  ad q 212 [dw a,S e,S f,S g] [cw a d] (.C []) [cw a (siftDown ltInt bL first nY d)]:=by grind[QI]
def H3(a first:Nat):∀(e root:Nat)(d:Array Int),a-root<=e->(siftDown ltInt a first root d).size=d.size:=by
 intro e;induction e with
 |zero=>intro root d f;rw[siftDown,dif_pos x]
 |succ e g=>
  intro root d f;rw[siftDown];exact qs
theorem O'(h:Nat)(n:Array Int)(d l:Nat)(y:n.size=h)(B:d<=l)(z:1<=l-d)(A:l<=h)(t:h<=4000000):ad q 178 [dw h,S d,S l] [cw h n] (.C []) [cw h (heapSort ltInt n d l)]:=by
 refine ad.E func178 rfl λD=>?_;obtain⟨f,rfl⟩:∃f,l=d+f:=⟨l-d,by omega⟩
 rw[yd]at z;refine cq a LG (g.b4 (S2:=Array Int) 0 a a (λd2=>d2.size=h/\d2=heapBuild ltInt f d ((f-1) / 2+1) n) (λ_=>[(0,dw h),(6,S d),(7,S 0),(8,S f)]) (λd2=>[cw h d2]) 1 (λe:Nat×Array Int=>e.2.size=h/\e.1<=(f-1) / 2+1/\heapBuild ltInt f d e.1 e.2=heapBuild ltInt f d ((f-1) / 2+1) n) (λe=>[(0,dw h),(6,S d),(7,S 0),(8,S f),(9,S ((e.1:Int)-1))]) (λe=>[cw h e.2]) (λe=>e.1) ((f-1) / 2+1,n) a cb a Q a ⟨y,bE _,a⟩ ?_ ?_)
 .rintro c8 ⟨o,d1⟩ ⟨j,r,u⟩;simp only at j r u;cases o with
  |zero=>
   refine a_ [-19] a Q (g.aA ?_);exact c8 d1 ⟨j,u⟩ a Q a Q
  |succ o=>
   refine a_ [19] rfl Q (g.aF (E_ h d1 (nY:=o) (bL:=f) (first:=d) j A x t x rfl rfl) [0] rfl (cq rfl ?_ (g.av (o,siftDown ltInt f d o d1) rfl ?_ ?_ ?_ ?_)))
   .exact pk
   .simp
   .simp
   .exact⟨by rw[H3 _ _ _ _ _ (bE _)];exact j,by grind,u⟩
   simp
 rintro p ⟨w,C⟩;refine cq a bH ?_;have v:heapSort ltInt n d (d+f)=heapPop ltInt d f p:=by unfold heapSort;grind
 rw[v];refine g.aN 1 (λe:Nat×Array Int=>e.2.size=h/\e.1<=f/\heapPop ltInt d e.1 e.2=heapPop ltInt d f p) (λe=>[(0,dw h),(6,S d),(7,S 0),(8,S f),(10,S ((e.1:Int)-1))]) (λe=>[cw h e.2]) (λe=>e.1) (f,p) a Q a Q a ⟨w,bE _,a⟩ ?_;rintro⟨o,d1⟩ ⟨j,r,u⟩;simp only at j r u;cases o with
 |zero=>
  rw[<-u];refine a_ [-30] a Q (g.aA ?_);exact qq
 |succ o=>
  have s:((d:Int)+(((o+1:Nat):Int)-1)).toNat=d+o:=x;refine b6 [30,911] a ?_ ?_
  .simp only[V,cX,dB,s,a9,bM,bn,bl];exact e_
  refine g.bq [cw h (swp d1 d (d+o))] a ?_ ?_
  .simp only[V.W,V,cX,dB,s,bl,bn];exact kb j x x (λ_ _=>rfl)
  refine cq rfl M (g.aF (E_ h (swp d1 d (d+o)) (nY:=0) (bL:=o) (first:=d) qs x x t rfl x rfl) [0] rfl (cq rfl ?_ (g.av (o,siftDown ltInt o d 0 (swp d1 d (d+o))) rfl ?_ ?_ ?_ ?_)))
  .exact pk
  .simp
  .simp
  .exact⟨by rw[H3 _ _ _ _ _ (bE _),mr];exact j,by grind,u⟩
  simp
end
section
open Go.Sort (bitsLen)
variable {q:al R}
def m7:e UInt8:=(aI 256).map λa=>UInt8.ofNat (bitsLen a)
def qS{A o:Nat}(d:A<2 ^ o):bitsLen A<=o:=by
 unfold bitsLen;split
 .omega
 rename_i a;have:=(Nat.log2_lt a).2 d;omega
theorem Sp{A:Nat}(a:A<256):(jI m7 A).toNat=bitsLen A:=by unfold jI m7;rw[dB,av,lW,List.getElem?_range a];have:=qS (A:=A) (o:=8) a;grind[UInt8.toNat_ofNat']
def C7{o:Nat}(e:2 ^ o<=p):bitsLen p=o+bitsLen (p / 2 ^ o):=by
 have a:0<2 ^ o:=Nat.two_pow_pos o;have h:0<p / 2 ^ o:=Nat.div_pos e a;unfold bitsLen;rw[bp x,bp x];have f:Nat.log2 p=o+Nat.log2 (p / 2 ^ o):=by
  rw[Nat.log2_eq_iff x];have d:=Nat.log2_self_le (n:=p / 2 ^ o) x;have g:=Nat.lt_log2_self (n:=p / 2 ^ o);constructor
  .rw[Nat.pow_add,Nat.mul_comm];exact i_ (gC _ d) (Nat.div_mul_le_self p _)
  rw[show o+Nat.log2 (p / 2 ^ o)+1=o+(Nat.log2 (p / 2 ^ o)+1) by omega,Nat.pow_add];grind[Nat.div_lt_iff_lt_mul]
 omega
set_option maxRecDepth 100000 in
def PL(p:Nat)(v:p<=4000000):ad q 170 [ld p] [] (S (bitsLen p)) []:=by
 refine ad.E func170 rfl λu=>?_;have fin:∀{d:e UInt8} {A:Nat},d=m7->A<256->(jI d (A:Int)).toNat=bitsLen A:=λaG t=>by grind[Sp]
 have h:∀{d:e UInt8},d=m7->c d=256:=λaG=>by rw[aG];rfl
 by_cases s:65536<=p
 .have j:((p:Int).toNat / 2 ^ Int.toNat 16)=p / 65536:=Q;have r:bitsLen p=16+bitsLen (p / 65536):=C7 (p:=p) (o:=16) s;have l:=qS (A:=p / 65536) (o:=8) J;refine b6 [-4,8,-14] a ?_ (g.an a ?_)
  .generalize aG:(ByteArray.data _).toList=d;have f:d=m7:=sk;simp only[V,j,fin f (show p / 65536<256 by omega),h f,a9,bM,d6];exact e_
  generalize aG:(ByteArray.data _).toList=d;have f:d=m7:=sk;simp only[V,V.W,j,fin f (show p / 65536<256 by omega),bn,bl];omega
 by_cases n:256<=p
 .have j:((p:Int).toNat / 2 ^ Int.toNat 8)=p / 256:=Q;have r:bitsLen p=8+bitsLen (p / 256):=C7 (p:=p) (o:=8) n;have l:=qS (A:=p / 256) (o:=8) J;refine b6 [-4,-8,14] a ?_ (g.an a ?_)
  .generalize aG:(ByteArray.data _).toList=d;have f:d=m7:=sk;simp only[V,j,fin f (show p / 256<256 by omega),h f,a9,bM,d6];exact e_
  generalize aG:(ByteArray.data _).toList=d;have f:d=m7:=sk;simp only[V,V.W,j,fin f (show p / 256<256 by omega),bn,bl];omega
 have l:=qS (A:=p) (o:=8) J;refine b6 [-4,-8,-14] a ?_ (g.an a ?_)
 .generalize aG:(ByteArray.data _).toList=d;have f:d=m7:=sk;simp only[V,fin f (show p<256 by omega),h f,a9,bM,d6];exact e_
 generalize aG:(ByteArray.data _).toList=d;have f:d=m7:=sk;simp only[V,V.W,fin f (show p<256 by omega),bn,bl];omega
def vT(d:Nat)(e:d<=4000000):ad q 136 [ld d] [] (S (bitsLen d)) []:=by refine ad.E func136 rfl λf=>?_;refine cq a M ?_;refine g.e_ ?_;refine cq a M ?_;refine g.aF (PL d e) [] a ?_;exact cq a M (g.an a)
end
section
open Go.Proofs Go.Conc Go.Conc.Lib
open Go.ConcN (WgLive PayAt Has RW AtR0)
open Go.ConcR (KK WgAt stA smA rd wr mk Payload DC0)
instance Xj:Payload:=⟨257⟩
def l4(h:Int):bB:=λargs f=>match args,f with
 |[.k (.S (.c (.int .i64 e))),g,.k (.S (.c (.int .i64 j)))],[]=>match i0 2 g with
  |none=>k
  |some (d,a)=>b (vF (di e (br.ao d a) j),[],[br.bV d a,e=h])
 |_,_=>k
noncomputable def Da:Code:=(Tryz.f187.body).getD .skip
noncomputable def AT:Array ah:=match Da with|.seq (.region _ a _) _=>a|_=>#[]
noncomputable def tW:Array ah:=match Da with|.seq _ (.region _ a _)=>a|_=>#[]
def MT:Tryz.f187.body=b (.seq (.region 0 AT m) (.region 1 tW i)):=bO
def fZ(f:Option Nat)(a:Op)(d:ab)(e:Array Edge):ah:={dst:=f,op:=a,type:=d,pos:= "l12_snap.go:82",after:=e,guard:=k}
def lv:e ah:=[fZ (b 6) (.load 246 (.tmp 4)) 246 #[],fZ (b 7) (.load 3 (.tmp 5)) 3 #[],fZ (b 8) (.load 3 (.tmp 1)) 3 #[],fZ (b 9) (.load 23 (.tmp 2)) 23 #[],fZ (b 10) (.load 3 (.tmp 3)) 3 #[],
 fZ (b 11) (.call {callee:=.value (.func 189),args:=#[.tmp 8,.tmp 9,.tmp 10],argTypes:=#[3,23,3]}) 257 #[⟨2,.data⟩,⟨3,.data⟩,⟨4,.data⟩],
 fZ (b 12) (.indexAddr 246 (.tmp 6) (.tmp 7)) 0 #[⟨0,.data⟩,⟨1,.data⟩,⟨0,.phase⟩,⟨1,.phase⟩,⟨2,.phase⟩,⟨3,.phase⟩,⟨4,.phase⟩,⟨5,.phase⟩],
 fZ k (.store 257 (.tmp 12) (.tmp 11)) 0 #[⟨6,.data⟩,⟨5,.data⟩,⟨5,.chain⟩,⟨0,.phase⟩,⟨1,.phase⟩,⟨2,.phase⟩,⟨3,.phase⟩,⟨4,.phase⟩,⟨5,.phase⟩]]
def S':tW=lv.toArray:=bO
def wK(a:lv[f]?=b r):f<8:=(cD.1 a).1
section
variable (o:Int)(aB:e bU)(t:Int)(p A D:Nat)
def Ha(a:I):bd:=[(0,ce a),(1,aL (.U [.int .i64 o])),(2,aL (.U [.M m 2 (c aB) (br.fn aB)])),(3,aL (.U [.int .i64 t])),(4,aL (.U [.val (.slice (b ⟨D,0,k⟩) p p)])),(5,aL (.U [.int .i64 A]))]
def qp:Nat->s
 |0=>ce (.slice (b ⟨D,0,k⟩) p p)
 |1=>S A
 |2=>S o
 |3=>br.M aB
 |4=>S t
 |5=>vF (di o aB t)
 |6=>ce (.pointer (b ⟨D,A*2,k⟩))
 |_=>.any
def p8:Nat->Option Nat
 |6=>b 0|7=>b 1|8=>b 2|9=>b 3|10=>b 4|11=>b 5|12=>b 6|_=>k
def FC(a:I):Nat->bd
 |5=>[(8,S o),(9,br.M aB),(10,S t)]
 |6=>[(6,ce (.slice (b ⟨D,0,k⟩) p p)),(7,S A)]
 |_=>Ha o aB t p A D a
end
def SY{p:al R}{d e f:Nat}(o:e<d):a0 p 13 lv (fZ (b 12) (.indexAddr 246 (.tmp 6) (.tmp 7)) 0 #[⟨0,.data⟩,⟨1,.data⟩,⟨0,.phase⟩,⟨1,.phase⟩,⟨2,.phase⟩,⟨3,.phase⟩,⟨4,.phase⟩,⟨5,.phase⟩]) [(6,ce (.slice (b ⟨f,0,k⟩) d d)),(7,S e)] [] (ce (.pointer (b ⟨f,e*2,k⟩))) []:=by
 refine .aT (λ_ _ _ _=>jZ a) (aR.aS λu r w l=>?_);have h:=l (.tmp 6);have g:=l (.tmp 7);have q:bA [(6,s.k (.S (.v (.slice (b ⟨f,0,k⟩) d d)))),(7,S e)] (.tmp 6)=ce (.slice (b ⟨f,0,k⟩) d d):=rfl;have t:bA [(6,s.k (.S (.v (.slice (b ⟨f,0,k⟩) d d)))),(7,S e)] (.tmp 7)=S e:=rfl;rw[q]at h;rw[t]at g;have h:=Rd.aM h;have g:=b2 g;generalize j:r (.tmp 7)=v at g;cases g;have n:=(bv 246 wd a).run_underlying (K:=u.a);refine⟨.pointer (b ⟨f,e*2,k⟩),?_,Rd.val a,?_⟩
 .simp[W,fZ,h,j,Instr.indexAt,asIntOf,n,show wd.desc=.slice 257 from a,(bv 257 p6 a).aU,show p6.size=2 from a,gg,o]
 simp[W,fZ,h,j,Instr.indexAt,asIntOf,n,show wd.desc=.slice 257 from a,gg,o]
def WB{B:al R}{l:Int}(F:bI B 189 (l4 l))(g:e bU)(t:Int)(p q r:Nat)(O:q<p)(E:I):
  sH B 13 lv.toArray (Ha l g t p q r E) [] (qp l g t p q r) (FC l g t p q r E) p8 7:=by
 have K:a3 B [(189,l4 l)]:=a3.cons F a3.nil;have y:∀(n:Nat) (v:ah) (C:bd) (z:s) (o:e Prop),lv[n]?=b v->gS ew [(189,l4 l)] [] lv C [] v=b (z,k,o)->V o->a0 B 13 lv v C [] z []:=
  λn v C z o _ A f=>h1 bv K A f
 refine⟨?_,?_,?_,?_,?_,?_,by decide⟩
 .intro n v f Q X _;simp only[iF]at f;have j:=wK f
  match n,j with
  |0,_|1,_|2,_|3,_|4,_|5,_|6,_|7,_=>
   cases f;simp[fZ]at X;try (rcases X with rfl|rfl|rfl|rfl|rfl|rfl|rfl|rfl|rfl<;>decide)
   try (rcases X with rfl|rfl|rfl<;>decide)
 .intro n v z f D;simp only[iF]at f;have j:=wK f
  match n,j with
  |0,_|1,_|2,_|3,_|4,_|5,_|6,_|7,_=>
   cases f;cases D;try exact⟨rfl,by decide⟩
 .intro z n A;unfold p8 at A;split at A<;>cases A<;>exact⟨_,rfl,rfl⟩
 .intro n v f x;simp only[iF]at f;have j:=wK f
  match n,j with
  |0,_=>cases f;exact y 0 _ _ _ _ a a M
  |1,_=>cases f;exact y 1 _ _ _ _ a a M
  |2,_=>cases f;exact y 2 _ _ _ _ a a M
  |3,_=>cases f;exact y 3 _ _ _ _ a a M
  |4,_=>cases f;exact y 4 _ _ _ _ a a M
  |5,_=>
   cases f;have:=y 5 _ (FC l g t p q r E 5) _ _ a a (by simp[br.ad]);rw[br.aa]at this;exact this
  |6,_=>cases f;exact SY O
  |7,_=>grind
 .intro n v f x w h d ai u;simp only[iF]at f;have j:=wK f
  match n,j with
  |0,_|1,_|2,_|3,_|4,_=>
   match w with
   |0|1|2|3|4|5=>exact u
   |w+6=>trivial
  |5,_=>
   cases f
   match w with
   |8=>exact(show bo h d ai (qp l g t p q r 2)from by simpa[p8,fZ,eD,Region.binds]using u)
   |9=>exact(show bo h d ai (qp l g t p q r 3)from by simpa[p8,fZ,eD,Region.binds]using u)
   |10=>exact(show bo h d ai (qp l g t p q r 4)from by simpa[p8,fZ,eD,Region.binds]using u)
   |0|1|2|3|4|5|6|7=>trivial
   |w+11=>trivial
  |6,_=>
   cases f
   match w with
   |6=>exact(show bo h d ai (qp l g t p q r 0)from by simpa[p8,fZ,eD,Region.binds]using u)
   |7=>exact(show bo h d ai (qp l g t p q r 1)from by simpa[p8,fZ,eD,Region.binds]using u)
   |0|1|2|3|4|5=>trivial
   |w+8=>trivial
  |7,_=>grind
 intro v f J N x;simp only[iF]at f;cases f
 match J,N with
 |0,_=>exact⟨⟨0,.phase⟩,by simp[fZ],rfl,rfl⟩
 |1,_=>exact⟨⟨1,.phase⟩,by simp[fZ],rfl,rfl⟩
 |2,_=>exact⟨⟨2,.phase⟩,by simp[fZ],rfl,rfl⟩
 |3,_=>exact⟨⟨3,.phase⟩,by simp[fZ],rfl,rfl⟩
 |4,_=>exact⟨⟨4,.phase⟩,by simp[fZ],rfl,rfl⟩
 |5,_=>exact⟨⟨5,.phase⟩,by simp[fZ],rfl,rfl⟩
 |6,_=>exact⟨⟨6,.data⟩,by simp[fZ],rfl,rfl⟩
 |7,_=>grind
noncomputable def k9:az:={(default:az)with fn:=Tryz.prog.funcs.size,defers:=[],mode:=.panicking [goexitEntry]}
def pW(z:Array I):Deferred:={target:=.fn (.func 187) z,args:=#[]}
def MU(a d e f g h:I)(j:af):ap R m (born R (pW #[a,d,e,f,g,h])) j =
  .go (G ((baseD 187).at ⟨#[a,d,e,f,g,h,E,E,E,E,E,E,E],[]⟩ [.code (.seq (.region 0 AT m) (.region 1 tW i))]) [k9]) j #[]:=by
 have o:=MT;have n:Tryz.f187.ntmps=13:=bO;have l:¬Tryz.f187.name= "runtime.NumGoroutine":=by have:(Tryz.f187.name== "runtime.NumGoroutine")=m:=bO;grind
 simp[born,pW,ap,unwind,callDeferred,invoke,callFunc,Tryz.func187,o,n,l,seen,GStep.after,G,Frame.enter,Frame.at,baseD,k9]
end
section
variable {q:al R}
abbrev mo(a:e bU)(d:Nat):bU:=a.getD d (0,[])
def Ri{d:Int}{a:e bU}{h:an}(l:f<c a)(q:gi o (mo a f) d=b h)(j:∀g,g<f->gi o (mo a g) d=k):di o a d=b h:=by
 unfold di;induction a generalizing f with
 |nil=>grind
 |cons r a n=>
  cases f with
  |zero=>grind
  |succ f=>
   have p:=j 0 x;grind
def Rj{f:Int}{a:e bU}(g:∀d,d<c a->gi o (mo a d) f=k):di o a f=k:=by unfold di;grind[List.getElem_of_mem]
theorem j4.eW{P:aw}{p:bd}{r:e Y}{q:e (Nat×bh)}(aG:bT P q){fn:Func}{t:Nat}{f:s}{g:e Y}(d:e Nat){h:e Prop}(j:rW q fn.results.toList d p f=b h)(y:V h)(z:dj d r=b g)(v:kN g=i)(A:eX d=i)(n:∀o,o<t->d[o]?=b o):
  j4 P fn t f g .ret p r:=by
 refine⟨.inl a,d,?_⟩;unfold rW at j;split at j
 .rename_i bK l;split at j
  .rename_i w x;split at j
   .rename_i u;exact⟨w,h,ns.eW aG l x,j,y,u,z,v,A,n⟩
   grind
  grind
 grind
def ro{d:e Nat}:∀a,a<0->d[a]?=b a:=λ_ f=>absurd f (gY _)
def OO(s:bI q 125 kx)(h:Int)(d:e bU)(j:Int)(o:cB h=i):ad q 189 [S h,br.M d,S j] [] (vF (di h d j)) []:=by
 refine ad.c5 func189 rfl rfl rfl λt=>?_;have y:=t.M 1 a;have n:a3 q [(229,jJ dc (jD bS) dc (λh w j=>hT (gi h w j)) λh _ _=>[cB h=i])]:=.cons (V3 s) .nil;refine cu n a M (g.aN 1 (λf=>f<=c d/\∀p,p<f->gi h (mo d p) j=k) (λf:Nat=>[(0,S h),(2,S j),(6,ba 0 0),(11,br.M d),(12,S (c d)),(13,S f)]) (λ_=>[.cells 257 [.c (.R []),.c (.bool m)]]) (λf=>c d-f) 0 a Q a Q a ⟨by omega,by omega⟩ ?_);rintro f ⟨v,r⟩;by_cases u:f<c d
 .cases l:gi h (mo d f) j with
  |some A=>
   refine a4 n [14,24] a ?_ (g.freeze 6 0 a a a (g.aV ?_))
   .simp only[V,dB,bS.aa];refine⟨?_,bS.ad _,o,by omega,by omega,gf x⟩;grind
   refine j4.eW bv [] a ?_ a a a ro;rw[Ri u l r];simp only[dB,bS.aa];simp_all
  |none=>
   refine a4 n [14,-24] a ?_ (g.av (f+1) a ?_ ?_ ?_ ?_)
   .simp only[V,dB,bS.aa];refine⟨by exact bH,?_,bS.ad _,o,by omega,by omega,gf x⟩;grind
   .simp
   .simp
   .grind
   grind
 refine a4 n [-14] a cb (g.aA ?_);refine cu n a M (g.freeze 6 0 a a a ?_);refine g.gp bv [] a ?_ a a a ro;rw[Rj λp z=>r p x];simp
def VA(l:bI q 125 kx)(e:cB o=i):bI q 189 (l4 o):=by
 intro args t h j g d f;unfold l4 at d;split at d
 .rename_i k1 s p;split at d
  .cases d
  rename_i v u n;cases d;obtain⟨r,rfl⟩:=f;exact(OO l _ _ p e).args λw z=>bW.imp (λ_ a=>a) (bW.imp (λ_ a=>br.b8 n r a) (bW.imp (λ_ a=>a) (λ_ a=>a))) z
 grind
def qX:bB:=λargs d=>match args,d with
 |[.k (.S (.c (.R [46]))),.k (.S (.c (.int .i64 a)))],[]=>b (bC (aW a.toNat 46),[],[0<=a/\a<=3])
 |_,_=>k
def Vd:bI q 157 (df dc (λa=>S (eT a.toNat)) λa=>[0<=a/\a<=4000000]):=.a3 λa e=>by
 have f:0<=a/\a<=4000000:=e;obtain⟨d,rfl⟩:∃d:Nat,a=d:=⟨a.toNat,by omega⟩
 exact Oq (q:=q) d x
def Nj(a:1<=p)(d:p<=8):p<=eT p/\eT p<=p+3:=Cq
def Qk(h:bI q 156 qX)(e:an):ad q 125 [bC e] [] (bC (eY e)) []:=by
 refine ad.E func125 rfl λl=>?_;have f:a3 q [(155,df dT (λj=>bm (cp j)) λ_=>[]),(157,df dc (λd=>S (eT d.toNat)) λd=>[0<=d/\d<=4000000]),(156,qX)]:=.cons BD (.cons Vd (.cons h .nil));by_cases t:cp e=i
 .have u:=t;simp only[cp,ct,bM]at u;have n:=Nj u.1.1 u.1.2;refine a4 f [-5] a ?_ (g.an a ?_)
  .simp[t,a9];omega
  simp[eY,t]
 refine a4 f [5] a mx (g.an a ?_);simp[eY,t]
def VY(a:bI q 156 qX):bI q 125 kx:=.a3 λd _=>Qk a d
def QB:ad q 156 [bC [46],S 0] [] (bC []) []:=by refine ad.E func156 rfl λd=>?_;refine a_ [12] a ?_ (g.an a);simp
def QC:ad q 156 [bC [46],S 1] [] (bC [46]) []:=by refine ad.E func156 rfl λd=>?_;refine a_ [-12,14] a ?_ (g.an a);simp
def V9(g:ad q 156 [bC [46],S 2] [] (bC [46,46]) [])(l:ad q 156 [bC [46],S 3] [] (bC [46,46,46]) []):bI q 156 qX:=by
 intro args j e f d a h;unfold qX at a;split at a
 .rename_i u;cases a;have:u=0∨u=1∨u=2∨u=3:=ky;rcases this with rfl|rfl|rfl|rfl
  .exact QB
  .exact QC
  .exact g
  grind
 grind
def ON(t j:e an):ad q 192 [bD.M t,bD.M j] [] (bm (t==j)) []:=by
 refine ad.E func192 rfl λo=>?_;have s:=o.M 0 a;by_cases l:c t=c j
 .refine a_ [-10] a (by simp[l]) (g.b1 (λd=>d<=c t/\∀f,f<d->t.getD f []=j.getD f []) (λd:Nat=>[(0,bD.M t),(1,bD.M j),(12,S (c t)),(13,S d)]) (λ_=>[]) (λd=>c t-d) 0 a Q a M ⟨by omega,by omega⟩ ?_);rintro d ⟨n,p⟩;by_cases u:d<c t
  .by_cases h:t.getD d []=j.getD d []
   .refine a_ [14,-24] a ?_ (g.bI (d+1) a ?_ a M ?_ ?_)
    .simp only[V,dB];have r:(t.getD d bD.N==j.getD d bD.N)=i:=gZ.2 h;exact⟨by exact bH,by grind,by omega,by omega,by omega,by omega,gf x⟩
    .simp
    .grind
    omega
   refine a_ [14,24] a ?_ (g.bD (b3.zero a ?_))
   .simp only[V,dB];grind
   exact Ce
  refine a_ [-14] a cb (g.a_ a a ?_);refine a8 a M (g.an a ?_);have:t=j:=pD l λf h v=>by grind
  simp[this]
 refine a_ [10] a cb (g.an a ?_);exact Ce
end
def t'{p q:Z}(s:r.op=.binOp op w p q ty){B:ab}(K:P.underlying w=b (.pointer B)){j z:Bool}(I:∀d g l,aZ h d->bo h d g (η p)->bo h d l (η q)->∃x y,g=.pointer x/\l=.pointer y/\(x==y)=j/\(eqGuard op w p q g l).run P d.a=.ok () d.a/\(∀a,(eqGuard op w p q g l).events P d.a a=a) /\
   (Op.equal w g l).run P d.a=.ok j d.a/\∀a,(Op.equal w g l).events P d.a a=a)(v:hn op j=b z):aR P r η h (aL (.bool z)) h:=by
 refine .aS λd C J A=>?_;obtain⟨x,y,e,f,D,o,E,n,F⟩:=I d _ _ J (A p) (A q);rw[e,f]at o n;have u:=E #[];have t:=F #[];rw[e,f]at u t;cases op<;>simp only[hn,reduceCtorEq,eA]at v
 .subst v;exact⟨.bool j,by simp[W,s,e,f,o,binOp,n],Rd.bool,by simp[W,s,e,f,o,u,binOp,n,t]⟩
 subst v;exact⟨.bool (!j),by simp[W,s,e,f,o,binOp,n],Rd.bool,by simp[W,s,e,f,o,u,binOp,n,t]⟩
def rH{n:Z}(q:r.op=.binOp op w n (.const (.pointer k)) ty){o:ab}(X:P.underlying w=b (.pointer o)){l:Bool}(v:η n=aL .bj)(t:η (.const (.pointer k))=aL .bj)(u:hn op i=b l):aR P r η h (aL (.bool l)) h:=by
 refine t' q X (j:=i) ?_ u;intro d x y _ g f;rw[v]at g;rw[t]at f;replace g:=b2 g;replace f:=b2 f;cases g;cases f;have s:(Op.equal w (.pointer k) (.pointer k)).run P d.a=.ok i d.a:=B7;have p:∀e,(Op.equal w (.pointer k) (.pointer k)).events P d.a e=e:=λe=>by show(aM (9999+1) w _ _).events P d.a e=e;unfold aM;simp[underlying,X]
 exact⟨k,k,a,a,a,by cases op<;>simp[eqGuard],λe=>by cases op<;>simp[eqGuard],s,p⟩
def Tx{p:Z}(t:r.op=.binOp op w p (.const (.pointer k)) ty){s:ab}(g:P.underlying w=b (.pointer s)){n:Bool}(y:η p=ba l off)(v:η (.const (.pointer k))=aL .bj)(x:hn op m=b n):aR P r η h (aL (.bool n)) h:=by
 refine t' t g (j:=m) ?_ x;intro e z A _ o f;rw[y]at o;rw[v]at f;replace f:=b2 f;cases f;obtain⟨_,L,j,_,_,rfl⟩:=(o:ck h e z (.ptr l off));have u:(Op.equal w (.pointer (b ⟨j,off,k⟩)) (.pointer k)).run P e.a=.ok m e.a:=by show(aM (9999+1) w _ _).run P e.a=_;unfold aM;simp[underlying,g]
 have q:∀d,(Op.equal w (.pointer (b ⟨j,off,k⟩)) (.pointer k)).events P e.a d=d:=λd=>by show(aM (9999+1) w _ _).events P e.a d=d;unfold aM;simp[underlying,g]
 exact⟨_,k,a,a,a,by cases op<;>simp[eqGuard],λd=>by cases op<;>simp[eqGuard],u,q⟩
def Ty{z A:Z}(I:r.op=.binOp op w z A ty){g:ab}(n:P.underlying w=b (.pointer g))(y:p≠0)(x:∀f,(sizeOf g).run P f=.ok p f)(F:∀f d,(sizeOf g).events P f d=d){q:Bool}(D:η z=ba l off)(O:η A=ba l off)(B:hn op i=b q):aR P r η h (aL (.bool q)) h:=by
 refine t' I n (j:=i) ?_ B;intro e M N _ v u;rw[D]at v;rw[O]at u;obtain⟨_,L,j,C,J,rfl⟩:=(v:ck h e M (.ptr l off));obtain⟨_,s,Q,t,o,rfl⟩:=(u:ck h e N (.ptr l off));rw[C]at t;cases t;rw[J]at o;cases o;have K:(Op.equal w (.pointer (b ⟨j,off,k⟩)) (.pointer (b ⟨j,off,k⟩))).run P e.a=.ok i e.a:=by show(aM (9999+1) w _ _).run P e.a=_;unfold aM;simp[underlying,n,x,y,sameAddr]
 have E:∀d,(Op.equal w (.pointer (b ⟨j,off,k⟩)) (.pointer (b ⟨j,off,k⟩))).events P e.a d=d:=λd=>by show(aM (9999+1) w _ _).events P e.a d=d;unfold aM;simp[underlying,n,x,F,y,sameAddr]
 exact⟨_,_,a,a,by simp,by cases op<;>simp[eqGuard],λd=>by cases op<;>simp[eqGuard],K,E⟩
def wY{q:Z}(u:r.op=.binOp op w q (.const (.pointer k)) ty){s:ab}(X:P.underlying w=b (.pointer s)){p:Bool}{o:e D}(z:η q=aL (.U o))(x:η (.const (.pointer k))=aL .bj)(y:hn op m=b p):aR P r η h (aL (.bool p)) h:=by
 refine t' u X (j:=m) ?_ y;intro d A B _ n l;rw[z]at n;rw[x]at l;replace n:=b2 n;replace l:=b2 l;cases l;cases n with|U j g=>
 have v:(Op.equal w (.pointer (b ⟨j,g,k⟩)) (.pointer k)).run P d.a=.ok m d.a:=B7;have t:∀f,(Op.equal w (.pointer (b ⟨j,g,k⟩)) (.pointer k)).events P d.a f=f:=λf=>by show(aM (9999+1) w _ _).events P d.a f=f;unfold aM;simp[underlying,X]
 exact⟨_,k,a,a,a,by cases op<;>simp[eqGuard],λf=>by cases op<;>simp[eqGuard],v,t⟩
section
variable {q:al R}
abbrev qQ(e:Bool)(d:I)(a:Option (Nat×Nat))(O:an)(f:Nat):Y:=.Q (ep 265 5 e d a O f)
def EO(d:I)(h:dx d=i)(e:Option (Nat×Nat))(O:an)(f:Nat):ad q 237 [ba 0 0] [qQ m d e O f] (.C []) [qQ i d e O f]:=by refine ad.E func237 rfl λl=>?_;refine a8 a M ?_;refine g.aI (aR.h6 bv a a a a a) a a ?_;refine g.aI (rH a underlying263 a a a) a a ?_;refine a8 a M ?_;refine g.aI (aR.h8 a a underlying263 underlying118 (kl type265) (by simp[Tryz.t265]) a) a a ?_;refine g.aI (aR.jw func254 bO bO bO bO rfl rfl rfl) rfl rfl ?_;refine g.aI (aR.h5 a a underlying118 underlying263 (kl type265) (by simp[Tryz.t265]) bO a) a a ?_;refine a8 a M ?_;refine g.aI (aR.h7 bv a a a a a a h) a a ?_;refine a8 a M ?_;exact b3.b_ [0] a M a a a (λn j=>by grind)
def EP(e:I)(d:Option (Nat×Nat))(O:an)(f:Nat):ad q 237 [ba 0 0] [qQ i e d O f] (.C []) [qQ i e d O f]:=by refine ad.E func237 rfl λn=>?_;refine a8 a M ?_;refine g.aI (aR.gy bv a a a a a) a a ?_;refine g.aI (Tx a underlying263 a a a) a a ?_;refine a8 a M ?_;refine g.aI (aR.gy bv a a a a a) a a ?_;refine a8 a M ?_;refine g.aI (Ty a underlying263 (p:=2) cz (λj=>by simp) (λj h=>by simp) a a a) a a ?_;refine a8 a M ?_;exact b3.b_ [0] a M a a a (λo l=>by grind)
abbrev dE(d:Bool)(a:Option (Nat×Nat))(O:an)(e:Nat):Y:=qQ d (iN a (c O)) a O e
def rm:∀a,a<1->([0]:e Nat)[a]?=b a:=λa d=>by grind
def zD(e:Bool)(d:Option (Nat×Nat))(O:an)(f:Nat)(j:c O<=9223372036854775807)(h:d=k->O=[]):ad q 197 [ba 0 0] [dE e d O f] (S (c O)) [dE e d O f]:=by
 refine ad.E func197 rfl λl=>?_;refine a8 a M (g.aI (aR.eF bv a a a a a) a a ?_);cases d with
 |none=>
  have:=h a;subst this;refine g.aI (aR.fj a a underlying22 a Q) a a ?_;exact Kl
 |some n=>
  refine g.aI (aR.fj a a underlying22 a j) a a ?_;exact Kl
def zP(X cap:Nat)(O d:an)(e:Nat)(n:c d<=9223372036854775807)(f:c O+c d<=cap):ad q 196 [ba 0 0,bC d] [dE i (b (X,cap)) O e] (.C [.S (.c (.int .i64 (c d))),.S (.c .bk)]) [dE i (b (X,cap)) (O++d) e]:=by refine ad.E func196 rfl λj=>?_;refine a8 a M ?_;refine g.aF (EP (iN (b (X,cap)) (c O)) (b (X,cap)) O e) [0] a ?_;refine a8 a M ?_;refine g.aI (aR.eF bv a a a a a) a a ?_;refine a8 a M ?_;refine g.aI (aR.h2 (l:=0) (X:=X) (cap:=cap) (O:=O) a underlying22 underlying9 (kl type5) (by simp[Tryz.t5]) a a a a f) a a ?_;refine a8 a M ?_;refine g.aI (aR.fO bv a a a a a a a) a a ?_;have h:dE i (b (X,cap)) (O++d) e=.Q (ep 265 5 i (iN (b (X,cap)) (c O+c d)) (b (X,cap)) (O++d) e):=J;rw[h];refine a8 a M (g.aQ [0] a ?_ rm);simp
theorem Q':ad q 196 [ba 0 0,bC []] [dE i k [] 0] (.C [.S (.c (.int .i64 0)),.S (.c .bk)]) [dE i k [] 0]:=by refine ad.E func196 rfl λd=>?_;refine a8 a M ?_;refine g.aF (EP (iN k 0) k [] 0) [0] a ?_;refine a8 a M ?_;refine g.aI (aR.eF bv a a a a a) a a ?_;refine a8 a M ?_;refine g.aI (aR.h3 a underlying22 underlying9 (kl type5) a a) a a ?_;refine a8 a M ?_;refine g.aI (aR.fO bv a a a a a a a) a a ?_;refine a8 a M (g.aQ [0] a ?_ rm);simp
abbrev hB:s:=ba 0 0
abbrev mV:s:=ba 0 1
def zO(e d:Nat)(O:an)(j:Nat)(t:c O<=9223372036854775807)(h:d≠0):ad q 198 [ba 0 0] [dE i (b (e,d)) O j] (bC O) [dE i (b (e,d)) O (c O)]:=by
 refine ad.E func198 rfl λn=>?_;refine a_ [901] a M ?_;refine g.eu c5 10 (λf=>aD f 9) (λf=>[hB,hB,mV,ce (.slice (b ⟨e,0,k⟩) (c O) d),ce (.pointer (b ⟨e,0,k⟩)),hB,hB,mV,ce (.slice (b ⟨e,0,k⟩) (c O) d),S (c O)].getD f .any) (λ(_:Unit) _=>bC O)
  (λ_=>[dE i (b (e,d)) O (c O)]) a a a a a a ?_ ?_ ?_ ?_
 .refine⟨.x,.x,.x,hI,?_,.x,.x,.x,?_,?_,M,M,M⟩
  .exact .aI (aR.hL a a h) a
  .exact hI
  exact Kg
 .intro _;refine⟨.x,.x,.x,hI,?_,.x,.x,.x,?_,?_,M,.x,M⟩
  .exact .aI (aR.hL a a h) a
  .exact hI
  exact Kg
 .exact .dY (.aI (MO (l:=0) a underlying299 bO a a a) a)
 exact Ju
def CP{e f:Z}(l:r.op=.binOp .add w e f ty){d:Int}(j:η e=S 0)(g:η f=S d)(n:a9 .i64 d):aR R r η h (S d) h:=by have:=aR.binOp (P:=R) (h:=h) l j g (u:=.int .i64 (0+d)) (cl:=[a9 .i64 (0+d)]) a bx;grind
def bG.gB{f:ar}{fn:Func}{args:e s}{a:ι->e Y}(p:Tryz.prog.funcs[f]?=b fn)(o:(fn.name== "runtime.NumGoroutine")=m)(t:fn.body=b u)(n:aD args.length fn.ntmps=i)(v:g q fn.ntmps (λr l d=>∃j,b3 fn h.length (res j) (a j) r l d) [.code u] .normal (hh 0 args) h):bG q f args h res a:=
 bG.intro p o t (e' n) (g.aW v)
def Q2:ad q 198 [ba 0 0] [dE i k [] 0] (bC []) [dE i k [] 0]:=by
 refine ad.E func198 rfl λe=>?_;refine a_ [901] a M ?_;refine g.eu c5 10 (λd=>aD d 9) (λd=>[hB,hB,mV,ce (.slice k 0 0),ce (.pointer k),hB,hB,mV,ce (.slice k 0 0),S (0:Nat)].getD d .any) (λ(_:Unit) _=>bC [])
  (λ_=>[dE i k [] 0]) a a a a a a ?_ ?_ ?_ ?_
 .refine⟨.x,.x,.x,hI,?_,.x,.x,.x,?_,?_,M,M,M⟩
  .exact .aI (aR.hK a a) a
  .exact hI
  exact pg
 .intro _;refine⟨.x,.x,.x,hI,?_,.x,.x,.x,?_,?_,M,.x,M⟩
  .exact .aI (aR.hK a a) a
  .exact hI
  exact pg
 .exact .dY (.aI (aR.jU a a a) a)
 exact Ju
def OZ(d:Nat)(n:0<d)(p:d<=140737488355328):bG (ι:={f:Nat×Nat // d<=f.2}) q 238 [ba 0 0,S d] [dE i k [] 0] (λ_=>.C []) (λy=>[dE i (b y.1) [] 0]):=by
 refine bG.gB func238 rfl rfl rfl ?_;refine a_ [900] a M ?_;have h:a9 .i64 (d:Int):=bH;have r:s:=ce (.slice k 0 0);refine g.eu (ι:={f:Nat×Nat // d<=f.2}) c5 8 (λe=>aD e 7||(aD 9 e&&aD e 13)) (λe=>[hB,hB,mV,ce (.slice k 0 0),S (0:Nat),S 0,S d,S d,.any,hB,hB,mV,ce (.slice k 0 0),S (0:Nat)].getD e .any)
  (λy e=>[ce (iN (b y.1) d),.any,.any,.any,.any,.any,ce (.slice (b ⟨y.1.1,0,k⟩) 0 y.1.2),ce (.slice (b ⟨y.1.1,0,k⟩) 0 y.1.2)].getD (e-8) .any)
  (λy=>[qQ i (.slice k 0 0) (b y.1) [] 0]) a a a a a a ?_ ?_ ?_ ?_
 .refine⟨.x,.x,.x,hI,JQ,KV,.x,?_,M,.x,.x,.x,?_,?_,M,M,M⟩
  .exact .aI (CP a a a h) a
  .exact hI
  exact pg
 .intro y;have j:y.1.2≠0:=J;refine⟨.x,.x,.x,hI,JQ,KV,.x,?_,M,.x,.x,.x,?_,?_,?_,.x,M⟩
  .exact .aI (CP a a a h) a
  .exact hI
  .exact pg
  exact .aI (aR.iT (o:=0) a underlying22 (kl type5) a a (jG _) y.2 j (gg _ _ _)) a
 .exact .aT a (MN (l:=0) (aB:=#[3]) underlying22 func255 bO bO bO bO rfl rfl rfl n p rfl)
 intro y;refine a8 a M (g.aI (aR.eF (l:=0) bv a a a a a) a a ?_);refine g.aI (aR.im a underlying22 (kl type5) a a) a a ?_;refine a8 a M (g.aI (aR.fO (l:=0) bv a a a a a a a) a a ?_);exact Jg
def EK(e:Nat)(f:0<e)(h:e<=140737488355328):bG (ι:={j:Nat×Nat // e<=j.2}) q 195 [ba 0 0,S e] [dE m k [] 0] (λ_=>.C []) (λy=>[dE i (b y.1) [] 0]):=by
 refine bG.gB func195 rfl rfl rfl ?_;refine a8 a M (g.aF (EO (iN k 0) a k [] 0) [0] a (a_ [-7,903] a Q ?_));refine g.eu c5 4 (λd=>aD d 3||(aD 5 d&&aD d 9)||aa d 11) (λd=>[hB,hB,mV,ce (.slice k 0 0),.any,hB,hB,mV,ce (.slice k 0 0),S (0:Nat),.any,S e].getD d .any)
  (λ(_:Unit) d=>[S (0:Nat),.any,.any,.any,.any,.any,S (0-0),.any,bm i].getD (d-4) .any)
  (λ_=>[dE i k [] 0]) a a a a a a ?_ ?_ ?_ ?_
 .refine⟨.x,.x,.x,hI,M,.x,.x,.x,hI,?_,M,.x,M,M⟩;exact pg
 .intro _;refine⟨.x,.x,.x,hI,M,.x,.x,.x,hI,pg,Ke,.x,?_,M⟩;exact .eval (bK:=[21]) bv a3.nil (cl:=[decide ((0:Int)-0<(e:Int))=i]) a cb
 .exact J8
 intro _;refine a8 a M (g.a4 (OZ e f h) [0] a bN λy=>?_);exact Jg
def N_:ad q 195 [ba 0 0,S (0:Nat)] [dE m k [] 0] (.C []) [dE i k [] 0]:=by
 refine ad.E func195 rfl λe=>?_;refine a8 a M (g.aF (EO (iN k 0) a k [] 0) [0] a (a_ [-7,903] a Q ?_));refine g.eu c5 4 (λd=>aD d 3||(aD 5 d&&aD d 9)||aa d 11) (λd=>[hB,hB,mV,ce (.slice k 0 0),.any,hB,hB,mV,ce (.slice k 0 0),S (0:Nat),.any,S (0:Nat)].getD d .any)
  (λ(_:Unit) d=>[S (0:Nat),.any,.any,.any,.any,.any,S (0-0),.any,bm m].getD (d-4) .any)
  (λ_=>[dE i k [] 0]) a a a a a a ?_ ?_ ?_ ?_
 .refine⟨.x,.x,.x,hI,M,.x,.x,.x,hI,?_,M,.x,M,M⟩;exact pg
 .intro _;refine⟨.x,.x,.x,hI,M,.x,.x,.x,hI,pg,Ke,.x,?_,M⟩;exact .eval (bK:=[-21]) bv a3.nil (cl:=[decide ((0:Int)-0<((0:Nat):Int))=m]) a Q
 .exact J8
 intro _;exact a8 a M (b3.b_ [0] a M a a a rm)
def CV(d:r.op=.alloc 265):aR R r η h (ba (c h) 0) (h++[dE m k [] 0]):=
 aR.h1 d (λe=>by simp) (λe a=>by simp)
def SJ{n o p:Z}{a d l:Int}(j:Int)(t:r.op=.call {callee:=.builtin .min,args:=#[n,o,p],argTypes:=dK})(A:η n=S a)(y:η o=S d)(B:η p=S l)(I:min (min a d) l=j)(z:a9 .i64 j):aR R r η h (S j) h:=by refine .aS λF s K q=>?_;have f:=q n;have e:=q o;have g:=q p;rw[A]at f;rw[y]at e;rw[B]at g;replace f:=b2 f;replace e:=b2 e;replace g:=b2 g;generalize u:s n=C at f;generalize w:s o=D at e;generalize v:s p=E at g;cases f;cases e;cases g;have x:(if l<(if d<a then d else a)then l else if d<a then d else a)=j:=J;exact⟨.int .i64 j,by simp[W,t,resolve,invoke,builtin,u,w,v,Builtin.min_,Builtin.min2,x],.int z,by simp[W,t,resolve,invoke,builtin,u,w,v,Builtin.min_,Builtin.min2]⟩
def E6(f:Nat)(z:2<=f)(A:f<=3):ad q 156 [bC [46],S f] [] (bC (aW f 46)) []:=by
 refine ad.E func156 rfl λy=>?_;have t:a3 q [(194,yG)]:=.cons Vg .nil;refine bs t [-13,-15,-18,-30,-33,-40,-44,-45,-46,-47,-48,-96,935] a ?_ ?_
 .have p:(f:Int)=2∨(f:Int)=3:=x;have j:(jI [46] 0).toNat=46:=rfl;simp[a9,j,p];omega
 refine g.region ?_;refine g.aI (CV a) a a ?_;refine c0 t a M (g.a4 (EK f x x) [0] a bN λu=>?_);obtain⟨⟨h,d⟩,l⟩:=u;have l:f<=d:=l;refine c0 t a M (g.aF (zP h d [] [46] 0 Q cb) [0] a (c0 t a M (g.b1 (λe=>1<=e/\e<=f) (λe:Nat=>[(0,bC [46]),(7,S f),(8,S f),(9,ba 0 0)]) (λe=>[dE i (b (h,d)) (aW e 46) (e-1)]) (λe=>f-e) 1 a Q a Q ⟨by omega,by omega⟩ ?_)));rintro e ⟨w,v⟩;refine c0 t a M (g.aF (zD i (b (h,d)) (aW e 46) (e-1) cb Q) [0] a ?_);by_cases r:e<f
 .refine bs t [113] a cb (g.aF (zD i (b (h,d)) (aW e 46) (e-1) cb Q) [0] a (c0 t a ky (g.aF (zD i (b (h,d)) (aW e 46) (e-1) cb Q) [0] a (c0 t a M (g.aI (SJ 1 a a a a cb kU) a a ?_)))));refine c0 t a M (g.aF (zO h d (aW e 46) (e-1) cb x) [0] a ?_);have o:lb (aW e (46:UInt8)) k (b 1)=[46]:=by
   obtain⟨n,rfl⟩:∃n,e=n+1:=⟨e-1,by omega⟩
   exact bH
  refine c0 t a cb ?_;rw[o];refine g.aF (zP h d (aW e 46) [46] (c (aW e 46)) Q cb) [0] a ?_;have s:aW e (46:UInt8)++[46]=aW (e+1) 46:=by rw[List.replicate_succ']
  rw[s];refine c0 t a M (g.bI (e+1) a Q a ?_ ⟨by omega,by omega⟩ x);simp
 refine bs t [-113] a cb (g.a_ a a ?_);have j:e=f:=x;subst j;exact c0 t a M (g.aF (zO h d (aW e 46) (e-1) cb x) [0] a B')
def V8:bI q 156 qX:=V9 (E6 2 x x) (E6 3 x x)
def xo:bI q 125 kx:=VY V8
def uS(d:Option (Nat×Nat))(e:Nat):Prop:=match d with|none=>e=0|some (_,a)=>e<=a/\0<a
def _root_.Go.AM.bG.hy{g:Type}{t:al P}{v:ar}{args:e s}{d:ι->e Y}{u:g->s}{f:g->e Y}(w:bG t v args h res d)(n:ι->g)(F:∀a,u (n a)=res a)(E:∀a,f (n a)=d a):bG t v args h u f:=
 ⟨w.1,λC z o p x j q=>w.2 C z o p x j λa l D r k1 y A B=>q (n a) l D r k1 J J J⟩
def N'(d:Nat)(g:d<=140737488355328):bG (ι:={e:Option (Nat×Nat) // uS e d}) q 195 [ba 0 0,S d] [dE m k [] 0] (λ_=>.C []) (λj=>[dE i j.1 [] 0]):=by
 by_cases h:d=0
 .subst h;exact N_.tocm.hy (λ_=>⟨k,a⟩) bN bN
 exact(EK d x g).hy (λf=>⟨b f.1,f.2,by grind⟩) bN bN
def zQ(a:Option (Nat×Nat))(O d:an)(g:c d<=9223372036854775807)(e:uS a (c O+c d)):ad q 196 [ba 0 0,bC d] [dE i a O 0] (.C [.S (.c (.int .i64 (c d))),.S (.c .bk)]) [dE i a (O++d) 0]:=by
 cases a with
 |none=>
  have e:c O+c d=0:=e;grind[Q']
 |some f=>exact zP f.1 f.2 O d 0 g e.1
def Uv(a:Option (Nat×Nat))(O:an):Nat:=match a with|none=>0|some _=>c O
def Q3(a:Option (Nat×Nat))(O:an)(f:c O<=9223372036854775807)(d:uS a (c O)):ad q 198 [ba 0 0] [dE i a O 0] (bC O) [dE i a O (Uv a O)]:=by
 cases a with
 |none=>
  have d:c O=0:=d;have g:O=[]:=j5 d;subst g;exact Q2
 |some e=>exact zO e.1 e.2 O 0 f (by have:=d.2;omega)
def ks(d:e an)(a:Nat):an:=(d.take a).flatten
def us{a:e an}(d:f<c a):ks a (f+1)=ks a f++a.getD f []:=by unfold ks;grind[List.take_add_one]
def II{a:e an}:ks a (c a)=a.flatten:=by simp[ks]
def ur{l:e an}(a:Nat):c (ks l a)<=c l.flatten:=by have d:l.flatten=(l.take a).flatten++(l.drop a).flatten:=Cm;rw[d,dZ];simp only[ks];omega
def Px(l:e an)(z:c l.flatten<=140737488355328):ad q 191 [bD.M l,bC []] [] (bC l.flatten) []:=by
 refine ad.E func191 rfl λy=>?_;have D:=y.M 0 a;by_cases B:l=[]
 .subst B;refine a_ [14] a ?_ (g.an a);simp
 by_cases A:c l=1
 .obtain⟨N,rfl⟩:=List.length_eq_one_iff.1 A;refine a_ [-14,16] a Q (g.an a ?_);simp
 have I:2<=c l:=by have:c l≠0:=J;omega
 refine a_ [-14,-16,-22] a bH (g.b1 (λd=>d<=c l) (λd:Nat=>[(0,bD.M l),(1,bC []),(5,S (c (ks l d))),(39,bD.M l),(40,S (c l)),(41,S d)]) (λ_=>[]) (λd=>c l-d) 0 a ?_ a M x ?_)
 .simp[ks]
 intro d p;have K:=ur (l:=l) d;by_cases n:d<c l
 .have v:=ur (l:=l) (d+1);rw[us n,dZ]at v;refine a_ [42,-49] a ?_ (g.bI (d+1) a ?_ a M x x)
  .have j:(l.getD (d:Int).toNat bD.N)=l.getD d []:=rfl;simp only[V,a9,j];grind
  have j:(l.getD (d:Int).toNat bD.N)=l.getD d []:=rfl;rw[us n];simp_all
 have j:d=c l:=x;subst j;refine a_ [-42,918] a Q (g.a_ a a ?_);refine a_ [918] a M (g.region ?_);refine g.aI (CV a) a a ?_;refine cq a M ?_;rw[II];refine g.a4 (N' (c l.flatten) z) [0] a bN λw=>?_;obtain⟨h,o⟩:=w;refine cq a bx ?_;have f:∀r,r<=c l.flatten->uS h r:=λr C=>by
  cases h with
  |none=>
   have:c l.flatten=0:=o;grind
  |some E=>exact⟨i_ C o.1,o.2⟩
 have s:ks l 1=l.getD 0 []:=by rw[us x];simp[ks]
 have u:=ur (l:=l) 1;rw[s]at u;refine g.aF (zQ h [] (l.getD 0 []) x (f _ J)) [0] a (cq a bx (g.b1 (λd=>d+1<=c l) (λd:Nat=>[(1,bC []),(8,ba 0 0),(63,aL (.M m 1 (c l-1) (gR 1 (bD.fn l)))),(64,S (c l-1:Nat)),(65,S d)]) (λd=>[dE i h (ks l (d+1)) 0]) (λd=>c l-d) 0 a ?_ a ?_ x ?_))
 .simp[cE]
 .exact bH
 intro d p;have F:=ur (l:=l) (d+1);by_cases n:d+1<c l
 .have t:=ur (l:=l) (d+2);rw[us n,dZ]at t;refine a_ [66] a bx (g.aF (zQ h (ks l (d+1)) [] Q (f _ J)) [0] a ?_);rw[iJ];refine a8 a M (g.aF (zQ h (ks l (d+1)) (l.getD (1+d) []) J (f _ J)) [0] a (a8 a bH (g.bI (d+1) a Q a ?_ x x)));refine V.W.2 ⟨?_,M⟩;rw[us n,Nat.add_comm 1 d];simp
 have j:d+1=c l:=x;refine a_ [-66] a bx (g.a_ a a ?_);rw[j,II];exact a8 a M (g.aF (Q3 h l.flatten x (f _ x)) [0] a sj)
def rA{a:an}(f:dP a=i)(d:Nat)(g:d<c a):97<=c9 a d/\c9 a d<=122:=by have e:=aX.1 f (a.getD d 0) J;simp only[iq,ct,bM]at e;unfold c9;omega
def Oh(e:an)(d:Nat)(f:dP e=i)(r:3<=d)(h:d<=c e)(o:c e<=4000000):ad q 137 [bC e,S d] [] (bm (oi e d)) []:=by
 refine ad.E func137 rfl λl=>?_;have n:=rA f (d-1) x;have p:=rA f (d-2) x;have s:=rA f (d-3) x;have j:((jI e ((d:Int)-1)).toNat:Int)=c9 e (d-1):=sl;have N:((jI e ((d:Int)-2)).toNat:Int)=c9 e (d-2):=sl;have u:((jI e ((d:Int)-3)).toNat:Int)=c9 e (d-3):=sl;refine a8 a ?_ (g.an a ?_)
 .simp only[V,a9,j,N,u];omega
 exact Kp
def Vr:bI q 137 (eK dT dc (λd a=>bm (oi d a.toNat)) λd a=>[dP d=i,3<=a,a<=c d,c d<=4000000]):=.bf λd a h=>by
 obtain⟨f,j,l,g⟩:=h;obtain⟨e,rfl⟩:∃e:Nat,a=e:=⟨a.toNat,by omega⟩
 exact Oh d e f x x g
def ww{j l:Z}{f g:Int}(e:Int)(p:r.op=.call {callee:=.builtin .min,args:=#[j,l],argTypes:=dK})(w:η j=S f)(u:η l=S g)(z:min f g=e)(v:a9 .i64 e):aR R r η h (S e) h:=by refine .aS λB s A n=>?_;have d:=n j;have a:=n l;rw[w]at d;rw[u]at a;replace d:=b2 d;replace a:=b2 a;generalize o:s j=x at d;generalize q:s l=y at a;cases d;cases a;have t:(if g<f then g else f)=e:=J;exact⟨.int .i64 e,by simp[W,p,resolve,invoke,builtin,o,q,Builtin.min_,Builtin.min2,t],.int v,by simp[W,p,resolve,invoke,builtin,o,q,Builtin.min_,Builtin.min2]⟩
theorem Ny{d:an}{a:Nat}(g:c d<=a+3+y)(f:y<=5):kD d a (5-y)=min (a+8) (c d):=by
 rcases dJ y 5 with e|e
 .obtain⟨o,cI⟩:∃o,5-y=o+1:=⟨4-y,by omega⟩
  rw[cI];simp only[kD];grind
 rw[show 5-y=0 by omega];rfl
def OF(w:an)(ac:Nat)(a2:dP w=i)(r:ac<=c w)(y:c w<=4000000):ad q 87 [bC w,S ac] [] (S (ec w ac)) []:=by
 refine ad.E func87 rfl λs=>?_;have t:a3 q [(137,eK dT dc (λf h=>bm (oi f h.toNat)) λf h=>[dP f=i,3<=h,h<=c f,c f<=4000000])]:=.cons Vr .nil;refine cu t a bH (g.b1 (λd=>d<=5/\kD w ac (5-d)=ec w ac) (λd:Nat=>[(0,bC w),(1,S ac),(5,S (ac+3+d))]) (λ_=>[]) (λd=>5-d) 0 a Q a M ⟨by omega,a⟩ ?_);rintro d ⟨v,e⟩;by_cases p:d<5/\ac+3+d<c w
 .obtain⟨o,cI⟩:∃o,5-d=o+1:=⟨4-d,by omega⟩
  have n:ac+(7-o)=ac+3+d:=x;rw[cI]at e;simp only[kD,n]at e;rw[bp x]at e;have ak:((ac:Int)+3+d).toNat=ac+3+d:=x;cases u:oi w (ac+3+d)with
  |true=>
   rw[u,bF a]at e;refine a4 t [11,16,22] a J2 (g.bD (b3.zero a ?_));exact bx
  |false=>
   rw[u,bp Q]at e;refine a4 t [11,16,-22] a J2 (g.bI (d+1) a ?_ a M ⟨by omega,by grind⟩ x);exact bx
 have ak:ec w ac=min (ac+8) (c w):=by
  rw[<-e];rcases dJ d 5 with j|j
  .grind [Ny]
  rw[show 5-d=0 by omega];rfl
 have l:a9 .i64 ((min (ac+8) (c w):Nat):Int):=bH;rcases dJ d 5 with j|j
 .refine a4 t [11,-16] a ?_ (g.a_ a a ?_)
  .simp only[V,a9,bM,d6];omega
  exact KY
 refine a4 t [-11] a ?_ (g.a_ a a ?_)
 .simp only[V,a9,bM,d6];omega
 exact KY
def Vw:bI q 87 (eK dT dc (λd a=>S (ec d a.toNat)) λd a=>[dP d=i,0<=a,a<=c d,c d<=4000000]):=.bf λd a h=>by
 obtain⟨f,j,l,g⟩:=h;obtain⟨e,rfl⟩:∃e:Nat,a=e:=⟨a.toNat,by omega⟩
 exact OF d e f x g
abbrev Dp(a:an):D:=.fn (.func 86) [] [.U [.R a]]
theorem OH(d:an):ad q 36 [bC d] [] (aL (Dp d)) []:=by refine ad.E func36 rfl λe=>?_;refine is [] 5 a M ?_;refine g.freeze 1 0 a a a ?_;exact a8 a M (g.an a)
def OI{ag:Type}(text:an)(I:dP text=i)(F:c text<=4000000){f:Nat}{e:bd}{v:Loop}(r t s:ag->Y)(u:Nat->ag->Prop)(l:ag)(E:u 0 l)(ao:∀d,r d≠.a2/\t d≠.a2/\s d≠.a2)(j:∀h d,h<c text->u h d->i7 (ι:={o:ag // u (ec text h) o}) q 3 [S h,S (ec text h)] [r d,t d,s d,.loop f e v] i (λo=>[r o.1,t o.1,s o.1,.loop f e v])):
  bG (ι:={d:ag // u (c text) d}) q 86 [.k (.S (.aD 3)),aL (.U [.R text])] [r l,t l,s l,.loop f e v] (λ_=>.C []) (λp=>[r p.1,t p.1,s p.1,.loop f e v]):=by
 refine bG.f' func86 rfl rfl rfl (g.aW ?_);have y:a3 q [(87,eK dT dc (λw p=>S (ec w p.toNat)) λw p=>[dP w=i,0<=p,p<=c w,c w<=4000000])]:=.cons Vw .nil;refine cu y a M ?_;show bX q _ (.loop _) _ _ _;refine bX.loop (bg:=ag×Nat) (λn=>n.2<=c text/\u n.2 n.1) (λn=>[(0,.k (.S (.aD 3))),(1,aL (.U [.R text])),(3,S n.2)]) (λn=>[r n.1,t n.1,s n.1,.loop f e v]) (λn=>c text-n.2) (l,0) ⟨jG _,E⟩ (et a Q) a ?_;rintro⟨d,h⟩ ⟨D,z⟩;simp only at D z;refine g.aW ?_;by_cases A:h<c text
 .have C:=pY text h A;refine a4 y [8] a dX (g.yield (j h d A z) a a a a a a λo=>?_);refine a4 y [-16] a Q ⟨(o.1,ec text h),⟨C.2.1,o.2⟩,?_,et a Q,a⟩;grind
 have B:h=c text:=x;subst B;refine a4 y [-8] a Q (g.fi a a ?_);exact⟨⟨d,z⟩,.inr a,a,rI (ao d).1 (rI (ao d).2.1 (rI (ao d).2.2 a)),[],.C [],[],a,a,a,M⟩
def T3{p:Z}(u:r.op=.binOp op w p (.const (.pointer k)) ty){s:ab}(X:P.underlying w=b (.pointer s)){n:Bool}{lt g:cS}{q j:Int}(E:η p=.k (.S (.aD l)))(y:cH l h=b (.Q (ei T (.aq lt q j g))))(z:η (.const (.pointer k))=aL .bj)(C:hn op m=b n):aR P r η h (aL (.bool n)) h:=by
 refine t' u X (j:=m) ?_ C;intro d D F A o f;rw[E]at o;rw[z]at f;replace f:=b2 f;cases f;obtain⟨_,L,B,rfl,_⟩:=(o:ck h d D (.aD l));obtain⟨_,⟨j,_,_,_,_,v,_⟩,_⟩:=A.box l _ L (dL y) B;rw[v];have x:(Op.equal w (.pointer (b ⟨j,0,k⟩)) (.pointer k)).run P d.a=.ok m d.a:=B7
 have t:∀e,(Op.equal w (.pointer (b ⟨j,0,k⟩)) (.pointer k)).events P d.a e=e:=λe=>by show(aM (9999+1) w _ _).events P d.a e=e;unfold aM;simp[underlying,X]
 exact⟨_,k,a,a,a,by cases op<;>simp[eqGuard],λe=>by cases op<;>simp[eqGuard],x,t⟩
abbrev nK(a d:Int):s:=.k (.agg [.c (.int .i64 a),.c (.int .i64 d)])
abbrev lr:ab:=212
def wV(h j:Int)(e:cS):∃a f g d,e.put h j=.aq a f g d:=by
 cases e with
 |nil=>exact⟨_,_,_,_,rfl⟩
 |aq a f g d=>
  simp only[cS.put];split
  .grind
  split<;>exact⟨_,_,_,_,rfl⟩
def z3:∀(d:e Nat)(a:Nat),a<0->d[a]?=b a:=λ_ a f=>absurd f x
def rl:∀a,a<1->([0]:e Nat)[a]?=b a:=λa d=>by grind
def vV(d e:Int)(z:a9 .i64 d)(D:a9 .i64 e):∀t:cS,ad q 149 [.k (.S (hz t 0)),nK d e] (gF lr t) (.k (.S (.aD 0))) [.Q (ei lr (t.put d e))]
 |.nil=>by refine ad.E func149 rfl λE=>?_;refine a8 a M (g.aI (rH a underlying174 a a a) a a ?_);refine a8 a M (g.cq 4 1 0 0 (lt:=.nil) (da:=.nil) a a (λn=>absurd a n) (λn=>absurd a n) (λn=>absurd a n) ?_);exact g.aQ [1] a Q (z3 _)
 |.aq lt h v da=>by
  have r:=vV d e z D lt;have s:=vV d e z D da;obtain⟨N,f,o,X,x⟩:=wV d e lt;obtain⟨ac,l,y,u,C⟩:=wV d e da;have w:(cS.aq lt h v da).put d e=if d<h then .aq (lt.put d e) h v da else if h<d then .aq lt h v (da.put d e)else .aq lt d e da:=rfl;rw[w];rw[x]at r⊢;rw[C]at s⊢;have j:a3 q [(149,qZ [.k (.S (hz lt 0)),nK d e] (gF lr lt) (.k (.S (.aD 0))) [.Q (ei lr (.aq N f o X))])]:=.cons (um r) .nil;have p:a3 q [(149,qZ [.k (.S (hz da 0)),nK d e] (gF lr da) (.k (.S (.aD 0))) [.Q (ei lr (.aq ac l y u))])]:=.cons (um s) .nil;clear r s w x C;refine ad.E func149 rfl λE=>?_;refine a8 a M (g.aI (T3 a underlying174 a a a a) a a ?_);refine a8 a M (g.gj 0 0 a a ?_);by_cases B:d<h
  .rw[bF B];cases lt<;>cases da<;>refine bs j [15] rfl bH ?_
   .exact KB
   .refine g.cq 4 0 3 2 (lt:=.aq N f o X) (da:=_) a a bN bN (λ_ _=>by decide) ?_;exact sf
   .exact KB
   refine g.cq 4 0 2 3 (lt:=.aq N f o X) (da:=_) a a bN bN (λ_ _=>by decide) ?_;exact sf
  rw[bp B];by_cases A:h<d
  .rw[bF A];cases lt<;>cases da<;>refine bs p [-15,33] rfl bH ?_
   .exact JH
   .exact JH
   .exact Jw
   exact Jw
  rw[bp A];cases lt<;>cases da<;>refine b6 [-15,-33] rfl bx ?_
  .refine g.cq 4 0 9 9 (lt:=.nil) (da:=.nil) a a (λn=>absurd a n) (λn=>absurd a n) (λn=>absurd a n) ?_;exact sf
  .refine g.cq 4 0 9 2 (lt:=.nil) (da:=_) a a (λn=>absurd a n) bN (λn=>absurd a n) ?_;exact sf
  .refine g.cq 4 0 2 9 (lt:=_) (da:=.nil) a a bN (λn=>absurd a n) (λ_ n=>absurd a n) ?_;exact sf
  refine g.cq 4 0 2 3 (lt:=_) (da:=_) a a bN bN (λ_ _=>by decide) ?_;exact sf
end
section
open Go.Proofs Go.Conc Go.Conc.Lib Go.ConcR.Gen
open Go.ConcN (WgLive PayAt Has RW AtR0)
open Go.ConcN.Gen
open Go.ConcR (KK WgAt stA smA rd wr mk Payload DC0)
def S_:AT=#[{dst:=k,op:=.defer {callee:=.value (.func 188),args:=#[.tmp 0],argTypes:=#[254]},type:=0,pos:= "l12_snap.go:81",after:=#[],guard:=k}]:=bO
def oF(a:I):az:={baseD 187 with defers:=[dcall 188 #[a]]}
abbrev BL(a d e f g h:I):Array I:=#[a,d,e,f,g,h,E,E,E,E,E,E,E]
def UY(d e f g h j:I)(q:af):Goes R m (λ_ _=>True) DC0 (λp _=>p=G ((oF d).i ⟨BL d e f g h j,[]⟩ [.code (.region 1 tW i)]) [k9]) 8 (born R (pW #[d,e,f,g,h,j])) q:=by
  have l:True:=M;have n:True->True->True:=λ_ _=>trivial;refine Goes.step a (λw1 o=>?_);rw[MU];simp only[goes_go];refine⟨⟨a,a⟩,?_⟩;clear o;rw[S_]
  u_c aA n l
  u_reg n l
  u_defer n l
  u_c aF n l
  exact Goes.stop λ_ _=>rfl
def N1(d:Array I):QuitsD R 2 0 (G {(baseD 187).at ⟨d,[]⟩ []with mode:=.returning} [k9]):=by
  have e:Tryz.f187.results=#[]:=bO;refine QuitsD.ctl (g':=G k9 []) a (λf=>?_) ?_
  · simp[G,ap,unwind,doReturn,results,Frame.at,baseD,k9,Tryz.func187,e,seen,GStep.after,goexitEntry]
  refine QuitsD.ctl (g':={G k9 []with status:=.finished}) rfl (λf=>?_) ⟨rfl,rfl⟩;simp[G,ap,unwind,k9,goexitEntry,Frame.catches];rfl
section
variable {v:gm}
def Wi(A:Nat)(l:v.aE=2)(d:Array I)(f:af)(e:WgLive 254 v.b f/\Has v.J (v.aE*A+1-1) (val A 0) f):
    ∃j,Goes R m (RW 254 v.b v.J (2*p) 0 (v.aE*A+1-1)) DC0 (AtR0 R 254 v.b v.J (2*p) 0 (v.aE*A+1) (val A 0)) j (G ((oF (.pointer (b ⟨v.b,0,k⟩))).i ⟨d,[]⟩ [.inRegion lv.toArray []]) [k9]) f:=by
  refine⟨26,?_⟩;have h:(oF (.pointer (b ⟨v.b,0,k⟩))).i ⟨d,[]⟩ [.inRegion lv.toArray []]=(baseD 187).at ⟨d,[dcall 188 #[.pointer (b ⟨v.b,0,k⟩)]]⟩ [.inRegion lv.toArray []]:=rfl;rw[h]
  u_c aF kn_rely e
  u_c stepG_end kn_rely e
  u_in kn_rely e
  rw[stepG_unwind_enter (c:=body_done pf) a uw.f_done bO bO];simp only[goes_go];refine⟨by u_nil,?_⟩;have g:=NG (P:=R) (L:=pf) (bt:=v.b) (D:=v.J) (p:=2*p) (lQ:=0) (A:=v.aE*A+1) (val:=val A 0) (u:={(baseD 187).at ⟨d,[]⟩ []with mode:=.returning}) (aY:=[k9]) uw rfl (N1 d) _ e;exact g
def T1{d:an}(e:Rd bi ai (.R d)):ai=.string ⟨d.toArray⟩:=by
  cases e with
  |R a f=>rw[<-a]
def Be{a:Bool}(d:Rd bi ai (.bool a)):ai=.bool a:=by cases d;rfl
def qz:ah:=fZ k (.store 257 (.tmp 12) (.tmp 11)) 0 #[⟨6,.data⟩,⟨5,.data⟩,⟨5,.chain⟩,⟨0,.phase⟩,⟨1,.phase⟩,⟨2,.phase⟩,⟨3,.phase⟩,⟨4,.phase⟩,⟨5,.phase⟩]
def MM{g:Nat}(ao:g<p)(C:v.aE=2){w:e bU}{N:Int}(V:val g 0=.string ⟨((di o w N).getD []).toArray⟩)(ag:val g 1=.bool (di o w N).isSome){l:Array I}(Q:bo [] d (l.getD 12 E) (qp o w N p g v.J 6))(S:bo [] d (l.getD 11 E) (vF (di o w N))):
    sw R 254 v (2*p) val g (G ((oF (.pointer (b ⟨v.b,0,k⟩))).i ⟨l,[]⟩ [.inRegion lv.toArray [7]]) [k9]) d:=by
  have Q:l.getD 12 E=.pointer (b ⟨v.J,g*2,k⟩):=Rd.aM Q;have S:l.getD 11 E=.agg #[val g 0,val g 1]:=by
    obtain⟨z,aj,n⟩:=S
    match z,n with
    |[],n=>exact n.elim
    |[_],n=>exact n.2.elim
    |_::_::_::_,n=>exact n.2.2.elim
    |[au,aw],n=>
      rw[aj,T1 n.1,Be n.2.1,V,ag]
  refine⟨a,λw1 an B q=>?_⟩;obtain⟨h,D,aB⟩:=B;have ai:v.aE*g=g*2:=J;have H:∀af∈[val g 0,val g 1],af.oneCell'=i:=by
    intro af P;simp only[ef,oz,pI]at P;rcases P with rfl|rfl
    · rw[V];rfl
    · rw[ag];rfl
  have ae:g*2+0+[val g 0,val g 1].length<=h.size:=J;have O:=run_storeCells_at R v.J (g*2) 257 [val g 0,val g 1] 0 h w1 D ae H;simp only[iK,fR,gX,cX]at O;generalize ad:(h.toList.take (g*2)++[val g 0,val g 1]++h.toList.drop (g*2+2)).toArray=new at O;have aF:new.size=h.size:=J;have ax:=setRow_heap w1 v.J h new 257 (0,0) D;have ay:∀r,(w1.setRow v.J new).cell? ⟨v.J,r,k⟩=new[r]?:=λr=>cell_setRow_same w1 v.J r h new 257 (0,0) D;have az:∀r,w1.cell? ⟨v.J,r,k⟩=h[r]?:=λr=>by simp[aJ,D]
  have aC:∀f,f<2->new[g*2+f]?=b (val g f):=by
    intro f A;rw[<-ad];have L:c (h.toList.take (g*2))=g*2:=J;rw[mO];simp only[iF];rw[gK x,L]
    match f,A with
    |0,_=>simp
    |1,_=>simp
  have aA:∀r,(r<g*2∨g*2+2<=r)->new[r]?=h[r]?:=by
    intro r u;rw[<-ad];have L:c (h.toList.take (g*2))=g*2:=J;rw[mO];simp only[iF];rcases u with u|u
    · grind
    · rw[gK x,L,gK J]
      simp only[fR,gX,ow];rw[show g*2+2+(r-g*2-(0+1+1))=r by omega];simp
  have X:(Value.agg #[val g 0,val g 1]).cells=#[val g 0,val g 1]:=rfl;have s:(W (⟨l,[]⟩:Act).eval qz).run R w1=.ok .skip (w1.setRow v.J new):=by have U:(⟨l,[]⟩:Act).eval (.tmp 12)=.pointer (b ⟨v.J,g*2,k⟩):=Q;have T:(⟨l,[]⟩:Act).eval (.tmp 11)=.agg #[val g 0,val g 1]:=S;simp[W,qz,fZ,U,T,Instr.storeAt,aU,storeVar,(bv 257 p6 a).aU,show p6.size=2 from a,X,O]
  have F:∀y∈(W (⟨l,[]⟩:Act).eval qz).events R w1 #[],∃K,K<2/\y=sb v.J (g*2+K):=by
    intro Z F;have U:(⟨l,[]⟩:Act).eval (.tmp 12)=.pointer (b ⟨v.J,g*2,k⟩):=Q;have T:(⟨l,[]⟩:Act).eval (.tmp 11)=.agg #[val g 0,val g 1]:=S;have y:W (⟨l,[]⟩:Act).eval qz=(do storeVar 257 ⟨v.J,g*2,k⟩ (.agg #[val g 0,val g 1]);pure .skip):=by simp[W,qz,fZ,U,T,Instr.storeAt,aU]
    rw[y]at F;have ah:Z∈(storeCells ⟨v.J,g*2,k⟩ [val g 0,val g 1]).events R w1 #[]:=by simp only[storeVar,aE,(bv 257 p6 a).aU,show p6.size=2 from a,X,aH,events_sizeOf,e3,cr,cn,cM,aT]at F;simpa[O]using F
    rcases li [val g 0,val g 1] 0 h w1 #[] D ae H Z ah with aG|⟨K,_,ak,rfl⟩
    · grind
    grind
  have ar:WgLive 254 v.b (w1.setRow v.J new):=by
    obtain⟨M,Y,ab⟩:=q;refine⟨M,Y,?_⟩;show(w1.setRow v.J new).heap[v.b]?=_;rw[setRow_other w1 v.J v.b new ?_]
    · exact ab
    · intro y
      have n:w1.heap[v.b]?=b (Go.ConcR.wgBlock 254 M Y):=ab;rw[y,D]at n;simp[Go.ConcR.wgBlock]at n;exact absurd n.2 cz
  refine⟨_,w1.setRow v.J new,_,HV (j:=oF (.pointer (b ⟨v.b,0,k⟩))) (t:=⟨l,[]⟩) (o:=[]) (aP:=lv.toArray) (f:=7) (bw:=[]) (r:=qz) a a (by simp[oF,baseD]) s,?_,?_,?_⟩
  · refine⟨rfl,rfl,rfl,by simp,λj aq=>setRow_other w1 v.J j new aq,⟨new,ax,by grind⟩,λr u=>?_,λf A=>?_⟩
    · grind
    · rw[C]at A
      rw[ay,ai];grind
  · intro y al
    obtain⟨K,ak,rfl⟩:=F y (Go.Conc.mem_seen al);exact⟨g*2+K,a,by omega,by omega⟩
  · exact Wi g C l _ ⟨ar,by show(w1.setRow v.J new).cell? _=_;grind⟩
def WK(X:bI (al.cA R) 189 (l4 o)){u:Nat}(N:u<p)(U:v.aE=2){f:e bU}{w:Int}(W:val u 0=.string ⟨((di o f w).getD []).toArray⟩)(S:val u 1=.bool (di o f w).isSome)(O:aZ [] d)(ag:d.m=[]){h j l n r:I}(D:Rd d.n h (.U [.int .i64 o]))(A:Rd d.n j (.U [.M m 2 (c f) (br.fn f)]))(K:Rd d.n l (.U [.int .i64 w]))(B:Rd d.n n (.U [.val (.slice (b ⟨v.J,0,k⟩) p p)]))(E:Rd d.n r (.U [.int .i64 u])):
    db (al.cA R) dS (sw R 254 v (2*p) val u) (born R (pW #[.pointer (b ⟨v.b,0,k⟩),h,j,l,n,r])) d:=by
  refine db.goes (q:=al.cA R) (cU:=λ_ _=>True) (s:=DC0) (Stop:=λz _=>z=G ((oF (.pointer (b ⟨v.b,0,k⟩))).i ⟨BL (.pointer (b ⟨v.b,0,k⟩)) h j l n r,[]⟩ [.code (.region 1 tW i)]) [k9])
    (λt=>aZ [] t/\t.n=d.n) (λt x g F=>⟨g.1.rely F,F.n.trans g.2⟩) (λ_ _ _ _=>trivial) ?_ (λt g=>cL.dZ g.1.mem) ?_ 8 _ d ⟨O,rfl⟩ (UY _ _ _ _ _ _ _)
  · rintro t T g ab ⟨rfl,rfl⟩
    exact⟨a,.inl (.aS g.1)⟩
  · rintro z t ⟨V,ae⟩ rfl
    rw[S'];refine cf.toT (λ_ _ _ g=>g) ?_;refine(WB X f w p u v.J N (.pointer (b ⟨v.b,0,k⟩))).region bO (by simp[oF,baseD]) ⟨by simp[BL],⟨[],M⟩,λJ=>?_⟩ a V λx Q af y Z C Y=>.stop ?_
    · rw[<-ae]at D A K B E
      match J with
      |0=>exact Rd.val rfl
      |1=>exact D
      |2=>exact A
      |3=>exact K
      |4=>exact B
      |5=>exact E
      |J+6=>trivial
    · obtain⟨ah,ad⟩:=Q
      obtain rfl:ad=[]:=Z;exact MM N U W S (y 12) (y 11)
end
end
section
open Go.Proofs Go.Conc Go.Conc.Lib
open Go.ConcN (WgLive PayAt Has RW AtR0)
open Go.ConcR (KK WgAt stA smA rd wr mk Payload DC0)
def mb:Code->Code|.seq a _=>a|d=>d
def gj:Code->Code|.seq _ a=>a|d=>d
def C':Code->Code|.block _ a=>a|d=>d
def Sy:Code->Code|.loop a=>a|d=>d
def AS:Code->Array ah|.region _ a _=>a|_=>#[]
noncomputable def pV:Code:=(Tryz.f146.body).getD .skip
noncomputable def gM:Code:=Sy (C' (gj (mb (gj (gj (gj pV))))))
noncomputable def DT:Code:=mb gM
noncomputable def y0:Code:=C' (mb (gj (gj gM)))
noncomputable def DU:Code:=mb y0
noncomputable def n3:Array ah:=AS (mb (gj y0))
noncomputable def nb:Array ah:=AS (gj (gj y0))
noncomputable def mR:Code:=gj (gj (gj gM))
noncomputable def kz:Code:=gj (gj (gj (gj pV)))
noncomputable def nc:Array ah:=AS (mb kz)
noncomputable def mS:Code:=gj kz
def DF:gM=.seq DT (.seq (.cond (.tmp 21) .skip (.exit 0)) (.seq (.block 1 (.seq DU (.seq (.region 6 n3 m) (.region 7 nb m)))) mR)):=bO
def Nb:kz=.seq (.region 9 nc m) mS:=bO
def sA(h:bd)(a:e Y):dn:=λg d f=>g=.normal/\hK d h/\f=a
structure dM(dA:e Y)(cy:aj)(F:bd)(h:e Y)(t:Act)(d:aj):Prop where
 bE:bQ 45 h d F t
 aJ:aZ h d
 a0:c6 dA cy h d
section
variable {dA:e Y}{cy:aj}{F y:bd}{h a6:e Y}{t:Act}{d:aj}
def dM.rely(a:dM dA cy F h t d){f:aj}(e:cL d f):dM dA cy F h t f:=⟨a.bE.rely e a.aJ,a.aJ.rely e,a.a0.trans e.aH⟩
structure mA(j:Nat)(d:aj):Prop where
 own:¬d.own j
 m:∀L∈d.m,j∉L.V
 n:∀r,d.n j r=k
 lt:j<d.a.heap.size
def mA.step{g:Nat}(e:mA g cy)(a:c6 dA cy h d):mA g d:=
 ⟨by rw[a.own];exact e.own,λL j o=>by
  rcases a.bp L j g o with f|⟨n,l,f⟩
  .have:=e.lt;omega
  .exact e.m n l f,λp=>by rw[a.ba g e.lt e.m];exact e.n p,ej e.lt a.size⟩
def dM.eg{a:Nat}(f:mA a cy):j0 a (dM dA cy F h t):=
 ⟨λ_ _ d g=>d.rely g,λ_ d=>⟨h,d.aJ⟩,λ_ d=>let e:=f.step d.a0;⟨e.own,e.m,e.n⟩⟩
variable {q:al R}{bg:ae->aj->Prop}{j:az}{o:e Item}{aY:e az}
def dM.ctl(l:dM dA cy F h t d){f a:ae}(p:f.status=.running)(o:∀n,ap R q.bW f n=.go a n #[])(j:∀e,dM dA cy F h t e->cf q bg a e):cf q bg f d:=
 .ctl l.aJ p o λe g=>j e (l.rely g)
def dM.code(g:dM dA cy F h t d)(A:j.kind≠.early){r:Code}(w:bX q 45 r (sA y a6) F h)(n:∀a e,dM dA cy y a6 a e->cf q bg (G (j.i a o) aY) e):cf q bg (G (j.i t (.code r::o)) aY) d:=by refine w d t g.bE g.aJ j o aY bg A ?_;rintro B s u p f ⟨rfl,l,rfl⟩ z x v;exact n f p ⟨z.le l,x,g.a0.trans v⟩
end
def cf.cn{d:Nat}{T:aj->aj->Array ay->Prop}{C:ae->aj->Prop}{p:ae}{g:aj}(t:cf (al.ay R 254 d) C p g)(q:gb (λe=>e=d) g)(l:WgLive 254 d g.a):
  db (al.ay R 254 d) T (λp g=>C p g/\WgLive 254 d g.a) p g:=by
 induction t with
 |stop t=>exact⟨.leaf,t,l⟩
 |@step p g Q B I y u v _ A=>
  refine .step y λo f=>?_;have E:=f.2 l;have s:gb (λe=>e=d) o:=⟨λe h=>by rw[f.1.own];exact q.own e h,λe h=>by rw[f.1.m];exact q.m e h,λe h J=>by rw[f.1.n];exact q.n e h J,λe h=>ej (q.lt e h) f.1.size⟩
  obtain⟨⟨D,r,w,F,n⟩,K⟩:=v o f;refine⟨_,_,_,u o f,.inl ⟨⟨D,r,w,F,n⟩,K⟩,A o f (s.step n) ?_⟩;obtain⟨N,O,M⟩:=E;exact⟨N,O,by show(B o).a.heap[d]?=_;rw[n.aG d (s.lt d a) (s.m d a)];exact M⟩
 |aK j _ A=>exact .aK j (A (q.aK j) (by rw[j.a];exact l))
 |bY z _ _ _=>exact z.elim
 |cQ x _ _=>exact x.elim
def mA.clear{d:Nat}{g:aj}(f:mA d g):gb (λe=>e=d) g:=⟨λe a=>a▸f.own,λe a=>a▸f.m,λe a=>a▸f.n,λe a=>a▸f.lt⟩
section
variable (o:Int)(aB:e bU)(bj:e Int)(D bt:Nat)
def hp(a:Nat):bd:=[(3,aL (.U [.int .i64 o])),(4,aL (.U [.M m 2 (c aB) (br.fn aB)])),(8,aL (.U [.val (.slice (b ⟨D,0,k⟩) (c bj) (c bj))])),(9,ce (.pointer (b ⟨bt,0,k⟩))),
 (18,cx.M bj),(19,S (c bj)),(20,S a)]
variable {o aB bj D bt}{q:al R}{h:e Y}
def GZ{d:Nat}(e:d<=c bj):bX q 45 DT (sA ((21,bm (decide (d<c bj)))::hp o aB bj D bt d) h) (hp o aB bj D bt d) h:=by
 refine g.aW ?_;by_cases f:d<c bj
 .refine a_ [21] a cb ⟨a,et a ?_,a⟩;exact bx
 refine a_ [-21] a cb ⟨a,et a ?_,a⟩;exact bx
abbrev eE:e Y:=[.t,.t,.t,.t,.t]
def Te{d:Nat}(e:d<c bj):bX q 45 DU (sA ((10,ba 5 0)::(11,ba 6 0)::hp o aB bj D bt d) [.t,.t,.t,.t,.t,.cells 3 [.c (.int .i64 d)],.cells 3 [.c (.int .i64 (bj.getD d 0))]]) (hp o aB bj D bt d) eE:=by refine g.aW ?_;refine a8 a cb ⟨a,et a Q,?_⟩;grind
def Tf{d:Nat}(e:d<c bj)(f:c bj<=4000000):bX q 45 mR (sA (hp o aB bj D bt (d+1)) eE) (hp o aB bj D bt d) eE:=by refine g.aW ?_;refine a8 a bH ⟨a,et a ?_,a⟩;simp
variable {dA:e Y}{cy:aj}{bg:ae->aj->Prop}{j:az}{eG:e Item}{aY:e az}
abbrev jd:e Y:=[.t,.t,.t,.t,.t,.t,.t]
variable (o aB bj D bt)in
abbrev jS(a:Nat):bd:=(11,aL (.U [.int .i64 (bj.getD a 0)]))::(10,aL (.U [.int .i64 a]))::hp o aB bj D bt a
noncomputable abbrev ry(a:e Item):e Item:=.code (.region 7 nb m)::.inBlock 1::.code mR::.inLoop gM::.inBlock 0::a
def xd{P:aw}{a:Bool}{g:az}{f:Act}{j:e Item}{d:e az}{l:af}{h n o:Code}(p:h=.seq n o):ap P a (G (g.i f (.code h::j)) d) l=.go (G (g.i f (.code n::.code o::j)) d) l:=by grind[n_]
def toAdd{f:Nat}(l:f<c bj)(y:j.kind≠.early){g:Act}{e:aj}(d:dM dA cy (hp o aB bj D bt f) eE g e)(z:∀x s,dM dA cy (jS o aB bj D bt f) jd x s->cf q bg (G (j.i x (.inRegion n3 [0]::ry eG)) aY) s):
  cf q bg (G (j.i g (.code gM::.inLoop gM::.inBlock 0::eG)) aY) e:=by
 refine d.ctl a (λh=>xd DF) λe d=>?_;refine d.code y (GZ (Nat.le_of_lt l)) λg e d=>?_;refine d.ctl a (λh=>n_) λe d=>?_;have A:g.eval (.tmp 21)=.bool i:=by have:=d.bE.aC 21;simp only[l,l0]at this;exact Be (b2 this)
 refine d.ctl a (λh=>xa A) λe d=>?_;refine d.ctl a (λh=>HW) λe d=>?_;refine d.ctl a (λh=>n_) λe d=>?_;refine d.ctl a (λh=>w') λe d=>?_;refine d.ctl a (λh=>n_) λe d=>?_;have d:dM dA cy (hp o aB bj D bt f) eE g e:=⟨d.bE.le (et a Q),d.aJ,d.a0⟩
 refine d.code y (Te l) λg e d=>?_;obtain⟨s,w1,p,n,u⟩:=bQ.freeze 10 5 (T:=3) (aY:=[.c (.int .i64 f)]) (jK:=[.int .i64 f]) rfl rfl rfl d.bE d.aJ;refine .aK (.of d.aJ n w1 (u.tolU d.aJ)) ?_;obtain⟨t,w2,r,v,w⟩:=bQ.freeze 11 6 (T:=3) (aY:=[.c (.int .i64 (bj.getD f 0))]) (jK:=[.int .i64 (bj.getD f 0)]) rfl rfl rfl p n;refine .aK (.of n v w2 (w.tolU n)) ?_;have d:dM dA cy (jS o aB bj D bt f) jd g t:=⟨r.le (et a Q),v,d.a0.trans ((u.tolU d.aJ).trans (w.tolU n))⟩
 refine d.ctl a (λh=>n_) λe d=>?_;refine d.ctl a (λh=>xc) λe d=>?_;exact z g e d
def qe:ah:={dst:=b 25,op:=.call {callee:=.value (.func 186),args:=#[.tmp 9,.const (.int .i64 1)],argTypes:=#[254,3]},type:=0,pos:= "l12_snap.go:79",after:=#[],guard:=k}
theorem GS:n3=#[qe]:=bO
def N2{f:Nat}(u:j.kind≠.early){t:Act}{g:aj}(p:dM dA cy (jS o aB bj D bt f) jd t g)(h:∀d,dM dA cy (jS o aB bj D bt f) jd t d->cf q bg (G (Frame.enter R 186 #[.pointer (b ⟨bt,0,k⟩),.int .i64 1] .normal) (j.i t (.inRegion n3 [0]::ry eG)::aY)) d):
  cf q bg (G (j.i t (.inRegion n3 [0]::ry eG)) aY) g:=by
 refine .next a λd l=>?_;have e:=p.rely (q.bt l);have n:t.eval (.tmp 9)=.pointer (b ⟨bt,0,k⟩):=Rd.aM (e.bE.aC 9);have s:(W t.eval qe).run R d.a=.ok (.enter 186 #[.pointer (b ⟨bt,0,k⟩),.int .i64 1]) d.a:=by have:=run_call_body (P:=R) (a:=t) (w:=d.a) (o:=qe) (f:=186) (fn:=Tryz.f186) a Tryz.func186 bO bO;rw[this,<-n];simp only[List.map_toArray,oB,List.map_nil];rfl
 have v:(W t.eval qe).events R d.a #[]=#[]:=events_call_body (P:=R) (a:=t) (w:=d.a) (o:=qe) (f:=186) (fn:=Tryz.f186) a Tryz.func186 bO bO #[];have w:listed R j.fn t qe d.a=#[]:=by unfold listed;grind[seen_none]
 refine⟨_,d,#[],?_,.aS e.aJ,h d e⟩;have:=uf (P:=R) (fc:=q.bW) (j:=j) (t:=t) (o:=ry eG) (aY:=aY) (K:=d.a) (aP:=n3) (f:=0) (bw:=[]) (r:=qe) (by grind[GS]) a u s;grind
def tQ:ah:={dst:=b 26,op:=.makeFunc (.func 187) #[] #[.tmp 9,.tmp 3,.tmp 4,.tmp 11,.tmp 8,.tmp 10],type:=1,pos:= "l12_snap.go:80",after:=#[],guard:=k}
def n0:ah:={dst:=k,op:=.go {callee:=.value (.tmp 26),args:=#[],argTypes:=#[]},type:=0,pos:= "l12_snap.go:80",after:=#[⟨0,.data⟩],guard:=k}
theorem GU:nb=[tQ,n0].toArray:=bO
variable (o aB bj D bt)in
abbrev pU(a:Nat):AM.D:=.fn (.func 187) [] [.val (.pointer (b ⟨bt,0,k⟩)),.U [.int .i64 o],.U [.M m 2 (c aB) (br.fn aB)],.U [.int .i64 (bj.getD a 0)],.U [.val (.slice (b ⟨D,0,k⟩) (c bj) (c bj))],.U [.int .i64 a]]
def SX{a:Nat}:a0 q 45 [tQ,n0] tQ ((25,.any)::jS o aB bj D bt a) jd (aL (pU o aB bj D bt a)) jd:=by have d:gS ew [] [] [tQ,n0] ((25,.any)::jS o aB bj D bt a) jd tQ=b (aL (pU o aB bj D bt a),k,[]):=rfl;exact h1 bv a3.nil d M
def toGo{g:Nat}(w:j.kind≠.early){h:Act}{f:aj}(d:dM dA cy (jS o aB bj D bt g) jd h f)(s:∀ai p e,dM dA cy (jS o aB bj D bt g) jd p e->Rd e.n ai (pU o aB bj D bt g)->p.tmps.getD 26 E=ai->cf q bg (G (j.i p (.inRegion nb [1]::.inBlock 1::.code mR::.inLoop gM::.inBlock 0::eG)) aY) e):
  cf q bg (G (j.i (h.put (b 25) (.tuple #[])) (.inRegion n3 []::ry eG)) aY) f:=by
 have v:dM dA cy ((25,.any)::jS o aB bj D bt g) jd (h.put (b 25) (.tuple #[])) f:=⟨d.bE.put cz M,d.aJ,d.a0⟩
 refine v.ctl a (λx=>ug) λf d=>?_;refine d.ctl a (λx=>xc) λf d=>?_;rw[GU];refine SX f _ d.bE d.aJ j _ aY bg 0 [1] w a λai e l t r=>?_;have l:Rd e.n ai (pU o aB bj D bt g):=b2 l;have n:=((d.bE.mono r d.aJ.len).put (N:=26) (ai:=ai) (A:=.any) cz M)
 have u:26<(h.put (b 25) (.tuple #[])).tmps.size:=by rw[d.bE.size];decide
 refine s ai _ e ⟨n.le (et a ?_),t,d.a0.trans r⟩ l (TO u);simp
def Wo{l:Nat}(n:l<c bj)(A:c bj<=4000000)(h:j.kind≠.early)(v:dA.length<=5){g:Act}{e:aj}(d:dM dA cy (jS o aB bj D bt l) jd g e)(u:∀r s,dM dA cy (hp o aB bj D bt (l+1)) eE r s->cf q bg (G (j.i r (.code gM::.inLoop gM::.inBlock 0::eG)) aY) s):
  cf q bg (G (j.i g (.inRegion nb []::.inBlock 1::.code mR::.inLoop gM::.inBlock 0::eG)) aY) e:=by
 have f:bQ 45 (eE++[.t,.t]) e (hp o aB bj D bt l) g:=d.bE.le (et a Q);have p:aZ (eE++[.t,.t]) e:=d.aJ;have w:c6 dA cy (eE++[.t,.t]) e:=d.a0;have z:eg e (e.cut (c eE)):=⟨rfl,λ_ _ _ d=>d,λ_ _ _=>rfl,p.mem,λj h=>h.imp id λ⟨L,y,h⟩=>⟨L,gE y,h⟩⟩
 refine .aK z ?_;have d:dM dA cy (hp o aB bj D bt l) eE g (e.cut (c eE)):=⟨⟨f.size,f.defers.imp λ_ x=>x.drop a,λB=>(f.aC B).drop (tC a)⟩,p.drop a,w.drop v⟩
 refine d.ctl a (λt=>ug) λe d=>?_;refine d.ctl a (λt=>HS) λe d=>?_;refine d.code h (Tf n A) λg e d=>?_;exact d.ctl a (λt=>HT) λe d=>u g e d
end
theorem pN{a:az}(f:a.roundOf=k)(d:Act)(g:e Item):a.i d g=a.at ⟨d.tmps,d.defers++a.defers⟩ g:=by cases a;simp only at f;subst f;rfl
section
variable {o:Int}{aB:e bU}{bj:e Int}{v:gm}{val:Nat->Nat->I}{dA:e Y}{cy:aj}{j:az}{eG:e Item}{aY:e az}
def FK{t:Act}{K:af}{h a d e f g:I}(l:t.tmps.getD 26 E=.func (.func 187) #[] #[h,a,d,e,f,g]):(W t.eval n0).run R K=.ok (.spawn (pW #[h,a,d,e,f,g])) K/\(W t.eval n0).events R K #[]=#[]:=by
 have j:t.eval (.tmp 26)=.func (.func 187) #[] #[h,a,d,e,f,g]:=l;constructor
 .simp[W,n0,resolve,Deferred.ofValue,j,pW]
 simp[W,n0,resolve,Deferred.ofValue,j]
def ML(ad:bI (al.cA R) 189 (l4 o))(U:v.aE=2)(y:j.roundOf=k)(ag:j.kind≠.early){h:Nat}(w:h<c bj)(W:val h 0=.string ⟨((di o aB (bj.getD h 0)).getD []).toArray⟩)(N:val h 1=.bool (di o aB (bj.getD h 0)).isSome){x:I}{t:Act}{d:aj}(S:dM dA cy (jS o aB bj v.J v.b h) jd t d)(D:WgLive 254 v.b d.a)(s:Rd d.n x (pU o aB bj v.J v.b h))(B:t.tmps.getD 26 E=x){Next:ae->aj->Prop}(F:∀g,dM dA cy (jS o aB bj v.J v.b h) jd t g->WgLive 254 v.b g.a->Next (G (j.i t (.inRegion nb []::.inBlock 1::.code mR::.inLoop gM::.inBlock 0::eG)) aY) g):
  uM R 254 v (2*c bj) val h Next (G (j.i t (.inRegion nb [1]::.inBlock 1::.code mR::.inLoop gM::.inBlock 0::eG)) aY) d:=by
 refine⟨a,λg q=>?_⟩;have A:=S.rely q.1;have X:Rd g.n x (pU o aB bj v.J v.b h):=by rw[q.1.n];exact s
 cases X with
 |fn u n p l M e O Q ab f=>
 have V:u=[]:=j5 p;subst V;have T:n=[e 0,e 1,e 2,e 3,e 4,e 5]:=by
  apply sT;intro z;have l:c n=6:=l
  match z with
  |0=>grind
  |1=>grind
  |2=>grind
  |3=>grind
  |4=>grind
  |5=>grind
  |z+6=>grind
 subst T;have af:e 0=.pointer (b ⟨v.b,0,k⟩):=Rd.aM (f 0 _ a);obtain⟨C,Y⟩:=FK (t:=t) (K:=g.a) B;have J:Go.Conc.listed R j.fn ⟨t.tmps,t.defers++j.defers⟩ n0 g.a=#[]:=by unfold Go.Conc.listed;have:=(FK (t:=⟨t.tmps,t.defers++j.defers⟩) (K:=g.a) B).2;grind[seen_none]
 have Z:=stepG_spawn (P:=R) (main:=i) (b:=j) (a:=⟨t.tmps,t.defers++j.defers⟩) (k:=.inBlock 1::.code mR::.inLoop gM::.inBlock 0::eG) (cs:=aY) (w:=g.a) (ops:=nb) (i:=1) (rest:=[]) (o:=n0) (by grind[GU]) a ag C a;refine⟨G (j.i t (.inRegion nb []::.inBlock 1::.code mR::.inLoop gM::.inBlock 0::eG)) aY,born R (pW #[e 0,e 1,e 2,e 3,e 4,e 5]),?_,a,?_,F g A (q.2 D)⟩
 .rw[pN y,pN y,Z,J];rfl
 rw[af];exact WK ad w U W N (d:=g.c6) ⟨A.aJ.mem,a,by simp,by simp[aj.c6],by simp[aj.c6],by simp[aj.c6]⟩ a (f 1 _ a) (f 2 _ a) (f 3 _ a) (f 4 _ a) (f 5 _ a)
def n1:ah:={dst:=b 28,op:=.call {callee:=.value (.func 190),args:=#[.tmp 9],argTypes:=#[254]},type:=0,pos:= "l12_snap.go:85",after:=#[],guard:=k}
theorem GV:nc=#[n1]:=bO
variable {q:al R}{bg:ae->aj->Prop}
def Wp(p:j.kind≠.early){D e:Nat}{t:Act}{h:aj}(d:dM dA cy (hp o aB bj D e (c bj)) eE t h)(s:∀n g,dM dA cy (hp o aB bj D e (c bj)) eE n g->cf q bg (G (Frame.enter R 190 #[.pointer (b ⟨e,0,k⟩)] .normal) (j.i n (.inRegion nc [0]::.code mS::eG)::aY)) g):
  cf q bg (G (j.i t (.code gM::.inLoop gM::.inBlock 0::.code kz::eG)) aY) h:=by
 refine d.ctl a (λK=>xd DF) λh d=>?_;refine d.code p (GZ (bE _)) λt h d=>?_;refine d.ctl a (λK=>n_) λh d=>?_;have x:t.eval (.tmp 21)=.bool m:=by have:=d.bE.aC 21;simp only[Nat.lt_irrefl,lX]at this;exact Be (b2 this)
 refine d.ctl a (λK=>xa x) λh d=>?_;refine d.ctl a (λK=>HR (fJ:=.code kz::eG) a) λh d=>?_;refine d.ctl a (λK=>xd Nb) λh d=>?_;refine d.ctl a (λK=>xc) λh d=>?_;have d:dM dA cy (hp o aB bj D e (c bj)) eE t h:=⟨d.bE.le (et a Q),d.aJ,d.a0⟩
 refine .next a λg u=>?_;have l:=d.rely (q.bt u);have y:t.eval (.tmp 9)=.pointer (b ⟨e,0,k⟩):=Rd.aM (l.bE.aC 9);have w:(W t.eval n1).run R g.a=.ok (.enter 190 #[.pointer (b ⟨e,0,k⟩)]) g.a:=by have:=run_call_body (P:=R) (a:=t) (w:=g.a) (o:=n1) (f:=190) (fn:=Tryz.f190) a Tryz.func190 bO bO;grind
 have z:(W t.eval n1).events R g.a #[]=#[]:=events_call_body (P:=R) (a:=t) (w:=g.a) (o:=n1) (f:=190) (fn:=Tryz.f190) a Tryz.func190 bO bO #[];have v:Go.Conc.listed R j.fn t n1 g.a=#[]:=by unfold Go.Conc.listed;grind[seen_none]
 refine⟨_,g,#[],?_,.aS l.aJ,s t g l⟩;have:=uf (P:=R) (fc:=q.bW) (j:=j) (t:=t) (o:=.code mS::eG) (aY:=aY) (K:=g.a) (aP:=nc) (f:=0) (bw:=[]) (r:=n1) (by grind[GV]) a p w;rw[v]at this;exact this
section
variable (o aB bj v dA cy j eG aY)
def uK(d:ae)(e:aj):Prop:=∃a,uL R pf v (dM dA cy (hp o aB bj v.J v.b (c bj)) eE a) (j.i a (.inRegion nc [0]::.code mS::eG)) aY d e
def CG(d:ae)(e:aj):Prop:=∃a,CH R pf v (dM dA cy (hp o aB bj v.J v.b (c bj)) eE a) (G (j.i (a.put (b 28) (.tuple #[])) (.inRegion nc []::.code mS::eG)) aY) d e
end
def Mz(l:mA v.b cy)(g:j.roundOf=k){d:ae}{f:aj}(e:uK o aB bj v dA cy j eG aY d f):
  db (al.ay R 254 v.b) (dI v.b) (pp R 254 v (CG o aB bj v dA cy j eG aY) (uK o aB bj v dA cy j eG aY)) d f:=by
 obtain⟨a,e⟩:=e;have n:(nc[0]?).bind (·.dst)=b 28:=by rw[GV];rfl
 rw[pN g]at e;refine MA (P:=R) (L:=pf) (g2:=j) (g1:=⟨a.tmps,a.defers++j.defers⟩) (fK:=nc) (g7:=0) (g_:=[]) (g9:=.code mS::eG) (aY:=aY) uw (dM.eg l) (λd f h=>⟨a,?_⟩) (λd f p=>⟨a,?_⟩) e
 .rw[pN g];rw[n]at h;exact h
 grind[pN]
def UO{P:aw}{a:ab}{h l:Nat}{j:ae->aj->Prop}:∀(n:Nat){d:ae}{e:aj},db (al.ay P a v.b) (dI v.b) (λd e=>nu P a v h val l j n d e) d e->nu P a v h val l j n d e
 |0,_,_,f=>db.bind f λ_ _ g=>g
 |_+1,_,_,f=>db.bind f λ_ _ g=>g
def UN(S:bI (al.cA R) 189 (l4 o))(N:v.aE=2)(u:mA v.b cy)(z:j.roundOf=k)(t:j.kind≠.early)(K:dA.length<=5)(H:c bj<=4000000)(Q:∀e,e<c bj->val e 0=.string ⟨((di o aB (bj.getD e 0)).getD []).toArray⟩)(M:∀e,e<c bj->val e 1=.bool (di o aB (bj.getD e 0)).isSome):
  ∀(p:Nat),p<=c bj->∀(a:Act) (d:aj),dM dA cy (hp o aB bj v.J v.b (c bj-p)) eE a d->WgLive 254 v.b d.a ->
   nu R 254 v (2*c bj) val (c bj) (uK o aB bj v dA cy j eG aY) p (G (j.i a (.code gM::.inLoop gM::.inBlock 0::.code kz::eG)) aY) d:=by
 intro p;induction p with
 |zero=>
  intro _ a d f l;rw[pF]at f;have:=cf.cn (T:=dI v.b) (Wp (q:=al.ay R 254 v.b) (eG:=eG) (aY:=aY) (bg:=λh d=>∃a,h=G (Frame.enter R 190 #[.pointer (b ⟨v.b,0,k⟩)] .normal) (j.i a (.inRegion nc [0]::.code mS::eG)::aY)/\dM dA cy (hp o aB bj v.J v.b (c bj)) eE a d) t f λr y n=>.stop ⟨r,rfl,n⟩) (u.step f.a0).clear l;refine db.bind this ?_;rintro h d ⟨⟨a,rfl,f⟩,l⟩;exact WF (P:=R) (L:=pf) (v:=v) uw (dM.eg u) (λh d s=>⟨a,s⟩) ⟨f,l⟩
 |succ p J=>
  intro V a d f l;have g:c bj-(p+1)<c bj:=x;generalize U:c bj-(p+1)=e at f g;have:=cf.cn (T:=dI v.b) (toAdd (q:=al.ay R 254 v.b) (eG:=.code kz::eG) (aY:=aY) (bg:=λh d=>∃a,h=G (Frame.enter R 186 #[.pointer (b ⟨v.b,0,k⟩),.int .i64 1] .normal) (j.i a (.inRegion n3 [0]::ry (.code kz::eG))::aY)/\dM dA cy (jS o aB bj v.J v.b e) jd a d) g t f λr y n=>N2 t n λO B=>.stop ⟨r,rfl,B⟩) (u.step f.a0).clear l;refine db.bind this ?_;rintro h d ⟨⟨a,rfl,f⟩,l⟩;have I:(n3[0]?).bind (·.dst)=b 25:=by rw[GS];rfl
  rw[pN z];refine Mt (P:=R) (L:=pf) (v:=v) (dt:=dM dA cy (jS o aB bj v.J v.b e) jd a) uw (dM.eg u) (λd D=>?_) ⟨f,l⟩;rw[I];have:=cf.cn (T:=dI v.b) (toGo (q:=al.ay R 254 v.b) (eG:=.code kz::eG) (aY:=aY) (bg:=λh d=>∃w a,h=G (j.i a (.inRegion nb [1]::.inBlock 1::.code mR::.inLoop gM::.inBlock 0::.code kz::eG)) aY/\dM dA cy (jS o aB bj v.J v.b e) jd a d/\Rd d.n w (pU o aB bj v.J v.b e)/\a.tmps.getD 26 E=w) t D.1 λw r y n F A=>.stop ⟨w,r,rfl,n,F,A⟩) (u.step D.1.a0).clear D.2;rw[pN z]at this;refine db.bind this ?_;rintro h d ⟨⟨w,a,rfl,f,F,A⟩,l⟩;rw[U];refine⟨.leaf,ML S N z t g (Q e g) (M e g) f l F A λy n C=>?_⟩;refine UO p ?_;have:=cf.cn (T:=dI v.b) (Wo (q:=al.ay R 254 v.b) (eG:=.code kz::eG) (aY:=aY) (bg:=λh d=>∃a,h=G (j.i a (.code gM::.inLoop gM::.inBlock 0::.code kz::eG)) aY/\dM dA cy (hp o aB bj v.J v.b (e+1)) eE a d) g H t K n λr y n=>.stop ⟨r,rfl,n⟩) (u.step n.a0).clear C;refine db.bind this ?_;rintro h d ⟨⟨a,rfl,f⟩,l⟩;refine⟨.leaf,J x a d ?_ l⟩;grind
end
end
section
open Go.Sort (swp bitsLen xorNextN xorNextN_lt xorNext xorNext_toNat breakStep breakPatterns)
variable {q:al R}
abbrev vj(a:Nat):Y:=.cells 270 [.c (.int .u64 a)]
def P7(d:Nat):ad q 205 [ba 0 0] [vj d] (ld (xorNextN d)) [vj (xorNextN d)]:=by refine ad.E func205 rfl λh=>?_;have f:(2:Nat) ^ Int.toNat 13=8192:=cz;have j:(2:Nat) ^ Int.toNat 7=128:=cz;have e:(2:Nat) ^ Int.toNat 17=131072:=cz;refine cq a Q ?_;refine g.bq [vj (xorNextN d)] a bH (g.aQ [0] a ?_ gN);exact bH
theorem Qv(d:Nat)(e:d<=4000000):ad q 204 [S d] [] (ld ((1 <<< bitsLen d:Nat):Int)) []:=by refine ad.E func204 rfl λj=>?_;have f:=qS (A:=d) (o:=22) J;refine cq a bH ?_;refine g.aF (vT d e) [] a ?_;refine cq a bx (g.an a ?_);have h:2 ^ bitsLen d<=2 ^ 22:=Nat.pow_le_pow_right x f;simp only[V,V.W,Nat.shiftLeft_eq,dB];grind
def Tt{L:Nat}(a:0<L):1 <<< bitsLen L<=2*L:=by rw[Nat.shiftLeft_eq,Nat.one_mul];unfold bitsLen;rw[bp x,Nat.pow_succ];grind[Nat.log2_self_le]
def Tu(L:Nat):1<=1 <<< bitsLen L:=by rw[Nat.shiftLeft_eq,Nat.one_mul];grind
def s7(e L d:Nat):Nat->Nat->UInt64×Array Int->UInt64×Array Int
 |0,_,a=>a
 |f+1,idx,a=>s7 e L d f (idx+1) (breakStep e L d a idx)
def MW{d:Array Int}{a L:Nat}(e:8<=L):breakPatterns d a (a+L)=(s7 a L (1 <<< bitsLen L) 3 (a+L / 4*2-1) (UInt64.ofNat L,d)).2:=by unfold breakPatterns;simp only[yd];exact bH
def MX{t L bi idx:Nat}{a1:UInt64}{N:Array Int}:breakStep t L bi (a1,N) idx=(xorNext a1,swp N idx (t+if(xorNextN a1.toNat &&& (bi-1))≥L then(xorNextN a1.toNat &&& (bi-1))-L else(xorNextN a1.toNat &&& (bi-1)))):=by unfold breakStep;simp only[xorNext_toNat]
abbrev MV(f a L d:Nat)(e:Nat):bd:=[(0,dw f),(1,S a),(6,S L),(7,ba 1 0),(8,ld d),(9,S ((a+L / 4*2-1+(3-e):Nat):Int))]
def Oi(e:Nat)(N:Array Int)(t j:Nat)(w:N.size=e)(D:t<=j)(K:j<=e)(A:e<=4000000):
  ad q 179 [dw e,S t,S j] [cw e N] (.C []) [cw e (breakPatterns N t j)]:=by
 refine ad.E func179 rfl λO=>?_;obtain⟨L,rfl⟩:∃L,j=t+L:=⟨j-t,by omega⟩
 by_cases z:8<=L
 .rw[MW z];have J:=Tt (L:=L) x;have F:=Tu L;have E:(UInt64.ofNat L).toNat=L:=by grind[UInt64.toNat_ofNat']
  refine b6 [15] a qv ?_;have key:∀s:Int,s=(L:Int)->ad q 204 [S s] [] (ld ((1 <<< bitsLen L:Nat):Int)) []:=by grind[Qv]
  refine g.aF (key _ x) [] a (cq a qv ?_);generalize I:1 <<< bitsLen L=bi at *;refine g.aN 2 (λd:Nat×UInt64×Array Int=>d.2.2.size=e/\d.1<=3/\(s7 t L bi d.1 (t+L / 4*2-1+(3-d.1)) d.2).2=(s7 t L bi 3 (t+L / 4*2-1) (UInt64.ofNat L,N)).2) (λd=>MV e t L bi d.1) (λd=>[cw e d.2.2,vj d.2.1.toNat]) (λd=>d.1) (3,UInt64.ofNat L,N) a ?_ a ?_ a ⟨w,bE _,a⟩ ?_
  .simp only[V.W,V,bn,bl];exact e_
  .exact bx
  rintro⟨o,a1,d1⟩ ⟨l,p,u⟩;simp only at l p u;cases o with
  |zero=>
   rw[<-u];refine b6 [-33] a xG (g.aA ?_);exact qq
  |succ o=>
   have C:xorNextN a1.toNat<18446744073709551616:=xorNextN_lt _ (UInt64.toNat_lt a1);have B:xorNextN a1.toNat &&& (bi-1)<=bi-1:=Nat.and_le_right;have y:((bi:Int)-1).toNat=bi-1:=x;refine b6 [33] a qv (g.aF (P7 a1.toNat) [1] a ?_);have ac:=MX (t:=t) (L:=L) (bi:=bi) (idx:=t+L / 4*2-1+(3-(o+1))) (a1:=a1) (N:=d1);generalize f:xorNextN a1.toNat &&& (bi-1)=h at *;by_cases r:L<=h
   .rw[bF r]at ac;have n:((t:Int)+((h:Int)-(L:Int))).toNat=t+(h-L):=x;refine b6 [43] a ?_ (g.av (o,xorNext a1,swp d1 (t+L / 4*2-1+(3-(o+1))) (t+(h-L))) a ?_ ?_ ?_ ?_)
    .simp only[V,cX,dB,y,f,n,a9,bM,bn,bl];exact e_
    .simp only[V.W,V,bn,bl];omega
    .exact KU
    .exact KF
    simp
   rw[bp r]at ac;have n:((t:Int)+(h:Int)).toNat=t+h:=x;refine b6 [-43] a ?_ (g.av (o,xorNext a1,swp d1 (t+L / 4*2-1+(3-(o+1))) (t+h)) a ?_ ?_ ?_ ?_)
   .simp only[V,cX,dB,y,f,n,a9,d6,bn,bl];exact e_
   .simp only[V.W,V,bn,bl];omega
   .exact KU
   .exact KF
   simp
 have v:breakPatterns N t (t+L)=N:=by unfold breakPatterns;grind
 rw[v];exact b6 [-15] a bH qq
end
section
open Go.Sort (swp scanUp scanDown partLoop partEqLoop partition partitionEqual ltInt)
variable {q:al R}
theorem w_{d:Int->Bool}{a:Array Int}(g:f<=y)(e:d a[f]! = i):scanUp d a y f=scanUp d a y (f+1):=by rw[scanUp.eq_1 d a y f,bF J]
theorem Bl{d:Int->Bool}{a:Array Int}(e:f<=y->d a[f]! = m):scanUp d a y f=f:=by rw[scanUp,bp];grind
theorem HN{d:Int->Bool}{a:Array Int}(h:1<=y)(j:f<=y)(g:d a[y]! = i):scanDown d a f y=scanDown d a f (y-1):=by
 obtain⟨y,rfl⟩:∃e,y=e+1:=⟨y-1,by omega⟩
 rw[scanDown,bF J,qN]
theorem HO{d:Int->Bool}{a:Array Int}(e:f<=y->d a[y]! = m):scanDown d a f y=y:=by
 cases y with
 |zero=>rfl
 |succ y=>
  rw[scanDown,bp];grind
def ud{U:Int->Bool}{N:Array Int}:∀(d a:Nat),y+1-a<=d->a<=scanUp U N y a/\(scanUp U N y a<=y+1∨scanUp U N y a=a):=by
 intro d;induction d with
 |zero=>intro a f;rw[Bl (λe=>by omega)];omega
 |succ d h=>
  intro a f;by_cases g:a<=y
  .cases e:U N[a]! with
   |true=>grind[w_]
   |false=>grind[Bl]
  grind
def uc{U:Int->Bool}{N:Array Int}:∀a:Nat,scanDown U N f a<=a/\(f<=scanDown U N f a+1∨scanDown U N f a=a):=by
 intro a;induction a with
 |zero=>rw[show scanDown U N f 0=0 from rfl];omega
 |succ a e=>
  by_cases d:f<=a+1
  .cases u:U N[a+1]! with
   |true=>grind[HN]
   |false=>grind[HO]
  exact xJ
def Tk{d:Nat}{N:Array Int}{e g:Nat}(o:1<=f)(h:e=scanUp (λa=>ltInt a N[d]!) N y f)(j:g=scanDown (λa=>!ltInt a N[d]!) N e y):
  partLoop ltInt d f y N=if e>g then(g,N)else partLoop ltInt d (e+1) (g-1) (swp N e g):=by have l:=ud (U:=λa=>ltInt a N[d]!) (N:=N) (y:=y) (y+1-f) f (bE _);have n:=uc (U:=λa=>!ltInt a N[d]!) (N:=N) (f:=e) y;rw[<-h]at l;rw[<-j]at n;rw[partLoop.eq_1,<-h,<-j];grind
def Tl{g a:Array Int}{d h:Nat}(o:a=swp g d h)(l:f=scanUp (λe=>ltInt e a[d]!) a (j-1) (d+1))(n:y=scanDown (λe=>!ltInt e a[d]!) a f (j-1))(p:f>y):partition ltInt g d j h=(y,i,swp a y d):=by unfold partition;grind
def Tm{h a:Array Int}{d l:Nat}(q:a=swp h d l)(o:f=scanUp (λg=>ltInt g a[d]!) a (j-1) (d+1))(p:y=scanDown (λg=>!ltInt g a[d]!) a f (j-1))(r:¬f>y){e:Nat×Array Int}(n:partLoop ltInt d (f+1) (y-1) (swp a f y)=e):partition ltInt h d j l=(e.1,m,swp e.2 e.1 d):=by subst n;unfold partition;grind
def Qn(d:Nat)(N:Array Int)(t j p:Nat)(aq:N.size=d)(ah:t<j)(aj:j<=d)(ao:p<d)(an:d<=4000000):
  ad q 185 [dw d,S t,S j,S p] [cw d N] (.C [.S (.c (.int .i64 (partition ltInt N t j p).1)),.S (.c (.bool (partition ltInt N t j p).2.1))]) [cw d (partition ltInt N t j p).2.2]:=by
 have X:a3 q [(183,oI)]:=.cons qn .nil;refine ad.E func185 rfl λal=>?_;refine bs X [902] a bx (g.bq [cw d (swp N t p)] a ?_ ?_)
 .simp only[V.W,V,cX,dB,bl,bn];exact kb aq x x (λ_ _=>rfl)
 have bk:(swp N t p).size=d:=qs;obtain⟨d0,z⟩:∃d0,d0=swp N t p:=⟨_,rfl⟩;rw[<-z]at bk⊢;refine c0 X a qr ?_
 refine g.b4 (S2:=Unit) 0 a a (λ_=>True) (λ_=>[(0,dw d),(1,S t),(10,S ((scanUp (λA=>ltInt A d0[t]!) d0 (j-1) (t+1)):Nat)),(11,S (j-1:Nat))]) (λ_=>[cw d d0]) 1 (λo:Nat=>t+1<=o/\o<=d+1/\scanUp (λA=>ltInt A d0[t]!) d0 (j-1) o=scanUp (λA=>ltInt A d0[t]!) d0 (j-1) (t+1)) (λo=>[(0,dw d),(1,S t),(10,S (o:Nat)),(11,S (j-1:Nat))]) (λ_=>[cw d d0]) (λo=>j-1+1-o) (t+1) a bH a Q a ⟨bE _,by omega,a⟩ ?_ ?_
 .rintro c8 o ⟨w,r,K⟩;by_cases R:o<=j-1
  .by_cases ax:(λA=>ltInt A d0[t]!) d0[o]! = i
   .have ac:ltInt d0[o]! d0[t]! = i:=J;refine bs X [32,42] a pj (g.av (o+1) a Q Q ?_ ?_)
    .grind [w_]
    omega
   have ac:ltInt d0[o]! d0[t]! = m:=J;refine bs X [32,-42] a pj (g.aA ?_);exact JE
  refine bs X [-32] a bx (g.aA ?_);exact JE
 rintro⟨⟩ -;have af:=ud (U:=λA=>ltInt A d0[t]!) (N:=d0) (y:=j-1) (j-1+1-(t+1)) (t+1) (bE _);obtain⟨f,u⟩:∃f,f=scanUp (λA=>ltInt A d0[t]!) d0 (j-1) (t+1):=⟨_,rfl⟩
 rw[<-u]at af⊢;refine c0 X a M (g.b4 (S2:=Unit) 2 a a (λ_=>True) (λ_=>[(0,dw d),(1,S t),(10,S (f:Nat)),(11,S ((scanDown (λA=>!ltInt A d0[t]!) d0 (f) (j-1)):Nat))]) (λ_=>[cw d d0]) 1 (λo:Nat=>o<=j-1/\o<=d/\scanDown (λA=>!ltInt A d0[t]!) d0 (f) o=scanDown (λA=>!ltInt A d0[t]!) d0 (f) (j-1)) (λo=>[(0,dw d),(1,S t),(10,S (f:Nat)),(11,S (o:Nat))]) (λ_=>[cw d d0]) (λo=>o) (j-1) a ?_ a ?_ a ⟨bE _,by omega,a⟩ ?_ ?_)
 .simp[b4]<;>omega
 .simp
 .rintro c8 o ⟨w,r,K⟩;by_cases R:f<=o
  .by_cases ax:(λA=>!ltInt A d0[t]!) d0[o]! = i
   .have ac:ltInt d0[o]! d0[t]! = m:=J;refine bs X [48,-58] a pj (g.av (o-1) a bx Q B3 ?_);omega
   have ac:ltInt d0[o]! d0[t]! = i:=J;refine bs X [48,58] a pj (g.aA ?_);exact K5
  refine bs X [-48] a bx (g.aA ?_);exact K5
 rintro⟨⟩ -;have ag:=uc (U:=λA=>!ltInt A d0[t]!) (N:=d0) (f:=f) (j-1);obtain⟨y,E⟩:∃y,y=scanDown (λA=>!ltInt A d0[t]!) d0 f (j-1):=⟨_,rfl⟩
 rw[<-E]at ag⊢;by_cases ab:y<f
 .rw[Tl z u E ab];refine bs X [65,909] a bx (g.bq [cw d (swp d0 y t)] a KH ?_);exact JT
 refine bs X [-65,911] a bx (g.bq [cw d (swp d0 f y)] a KH ?_);refine c0 X a qr ?_;have Y:(swp d0 f y).size=d:=qs;obtain⟨h,B⟩:∃h,partLoop ltInt t (f+1) (y-1) (swp d0 f y)=h:=⟨_,rfl⟩;rw[Tm z u E x B]
 obtain⟨d1,L⟩:∃d1,d1=swp d0 f y:=⟨_,rfl⟩;rw[<-L]at Y B⊢;refine g.b4 (S2:=Unit) 4 a a (λ_=>h.1<d/\h.2.size=d) (λ_=>[(0,dw d),(1,S t),(11,S h.1)]) (λ_=>[cw d h.2]) 1 (λe:Nat×Nat×Array Int=>e.2.2.size=d/\t+1<=e.1/\e.1<=d+1/\e.2.1<d/\partLoop ltInt t e.1 e.2.1 e.2.2=h) (λe=>[(0,dw d),(1,S t),(10,S e.1),(11,S e.2.1)]) (λe=>[cw d e.2.2]) (λe=>e.2.1+1-e.1) (f+1,y-1,d1) a bx a Q a ⟨Y,by grind,by grind,by grind,B⟩ ?_ ?_
 .rintro s ⟨fh,n,d2⟩ ⟨G,ae,T,P,O⟩;simp only at G ae T P O;refine c0 X a M (g.b4 (S2:=Unit) 6 a a (λ_=>True) (λ_=>[(0,dw d),(1,S t),(10,S ((scanUp (λA=>ltInt A d2[t]!) d2 (n) (fh)):Nat)),(11,S (n:Nat))]) (λ_=>[cw d d2]) 1 (λo:Nat=>fh<=o/\o<=d+1/\scanUp (λA=>ltInt A d2[t]!) d2 (n) o=scanUp (λA=>ltInt A d2[t]!) d2 (n) (fh)) (λo=>[(0,dw d),(1,S t),(10,S (o:Nat)),(11,S (n:Nat))]) (λ_=>[cw d d2]) (λo=>n+1-o) (fh) a ?_ a ?_ a ⟨bE _,by omega,a⟩ ?_ ?_)
  .simp[b4]<;>omega
  .simp
  .rintro c8 o ⟨w,r,K⟩;by_cases R:o<=n
   .by_cases ax:(λA=>ltInt A d2[t]!) d2[o]! = i
    .have ac:ltInt d2[o]! d2[t]! = i:=J;refine bs X [101,111] a pj (g.av (o+1) a Q Q ?_ ?_)
     .grind [w_]
     omega
    have ac:ltInt d2[o]! d2[t]! = m:=J;refine bs X [101,-111] a pj (g.aA ?_);exact JY
   refine bs X [-101] a bx (g.aA ?_);exact JY
  rintro⟨⟩ -;have F:=ud (U:=λA=>ltInt A d2[t]!) (N:=d2) (y:=n) (n+1-fh) fh (bE _);obtain⟨l,D⟩:∃l,l=scanUp (λA=>ltInt A d2[t]!) d2 n fh:=⟨_,rfl⟩
  rw[<-D]at F⊢;refine c0 X a M (g.b4 (S2:=Unit) 8 a a (λ_=>True) (λ_=>[(0,dw d),(1,S t),(10,S (l:Nat)),(11,S ((scanDown (λA=>!ltInt A d2[t]!) d2 (l) (n)):Nat))]) (λ_=>[cw d d2]) 1 (λo:Nat=>o<=n/\o<=d/\scanDown (λA=>!ltInt A d2[t]!) d2 (l) o=scanDown (λA=>!ltInt A d2[t]!) d2 (l) (n)) (λo=>[(0,dw d),(1,S t),(10,S (l:Nat)),(11,S (o:Nat))]) (λ_=>[cw d d2]) (λo=>o) (n) a ?_ a ?_ a ⟨bE _,by omega,a⟩ ?_ ?_)
  .simp[b4]<;>omega
  .simp
  .rintro c8 o ⟨w,r,K⟩;by_cases R:l<=o
   .by_cases ax:(λA=>!ltInt A d2[t]!) d2[o]! = i
    .have ac:ltInt d2[o]! d2[t]! = m:=J;refine bs X [117,-127] a pj (g.av (o-1) a bx Q B3 ?_);omega
    have ac:ltInt d2[o]! d2[t]! = i:=J;refine bs X [117,127] a pj (g.aA ?_);exact JF
   refine bs X [-117] a bx (g.aA ?_);exact JF
  rintro⟨⟩ -;have I:=uc (U:=λA=>!ltInt A d2[t]!) (N:=d2) (f:=l) n;obtain⟨v,W⟩:∃v,v=scanDown (λA=>!ltInt A d2[t]!) d2 l n:=⟨_,rfl⟩
  rw[<-W]at I⊢;have Z:=Tk x D W;by_cases C:v<l
  .have ak:=Z;rw[O,bF C]at ak;refine bs X [134] a bx (g.aA ?_);exact s () J a LS a sq
  have ak:=Z;rw[O,bp x]at ak;refine bs X [-134,919] a ?_ ?_
  .simp only[V,cX,dB,a9,d6,bn,bl];exact e_
  refine g.bq [cw d (swp d2 l v)] a ?_ ?_
  .simp only[V.W,V,cX,dB,bl,bn];exact kb G x x (λ_ _=>rfl)
  refine c0 X a qr (g.av (l+1,v-1,swp d2 l v) a bx Q ?_ ?_)
  .grind [mr]
  grind
 rintro⟨⟩ ⟨ai,H⟩;refine bs X [922] a bx (g.bq [cw d (swp h.2 h.1 t)] a ?_ ?_)
 .simp only[V.W,V,cX,dB,bl,bn];exact kb H x x (λ_ _=>rfl)
 exact JT
def Tj{e:Nat}{N:Array Int}{a h:Nat}(o:1<=f)(g:a=scanUp (λd=>!ltInt N[e]! d) N y f)(j:h=scanDown (λd=>ltInt N[e]! d) N a y):
  partEqLoop ltInt e f y N=if a>h then(a,N)else partEqLoop ltInt e (a+1) (h-1) (swp N a h):=by have l:=ud (U:=λd=>!ltInt N[e]! d) (N:=N) (y:=y) (y+1-f) f (bE _);have n:=uc (U:=λd=>ltInt N[e]! d) (N:=N) (f:=a) y;rw[<-g]at l;rw[<-j]at n;rw[partEqLoop.eq_1,<-g,<-j];grind
def Qo(d:Nat)(N:Array Int)(t j p:Nat)(R:N.size=d)(ab:t<j)(af:j<=d)(aq:p<d)(P:d<=4000000):
  ad q 184 [dw d,S t,S j,S p] [cw d N] (S (partitionEqual ltInt N t j p).1) [cw d (partitionEqual ltInt N t j p).2]:=by
 have h:a3 q [(183,oI)]:=.cons qn .nil;refine ad.E func184 rfl λag=>?_;refine bs h [902] a bx (g.bq [cw d (swp N t p)] a ?_ ?_)
 .simp only[V.W,V,cX,dB,bl,bn];exact kb R x x (λ_ _=>rfl)
 have D:(swp N t p).size=d:=qs;unfold partitionEqual;generalize swp N t p=d1 at *;obtain⟨n,H⟩:∃n,partEqLoop ltInt t (t+1) (j-1) d1=n:=⟨_,rfl⟩;rw[H];refine c0 h a qr ?_
 refine g.b4 (S2:=Unit) 0 a a (λ_=>n.1<=d+1/\n.2.size=d) (λ_=>[(0,dw d),(1,S t),(9,S n.1)]) (λ_=>[cw d n.2]) 1 (λe:Nat×Nat×Array Int=>e.2.2.size=d/\t+1<=e.1/\e.1<=d+1/\e.2.1<d/\partEqLoop ltInt t e.1 e.2.1 e.2.2=n) (λe=>[(0,dw d),(1,S t),(9,S e.1),(10,S e.2.1)]) (λe=>[cw d e.2.2]) (λe=>e.2.1+1-e.1) (t+1,j-1,d1) a bx a Q a ⟨D,by grind,by grind,by grind,H⟩ ?_ ?_
 .rintro K ⟨fh,u,d2⟩ ⟨F,T,Y,G,l⟩;simp only at F T Y G l;refine c0 h a M (g.b4 (S2:=Unit) 2 a a (λ_=>True) (λ_=>[(0,dw d),(1,S t),(9,S ((scanUp (λA=>!ltInt d2[t]! A) d2 (u) (fh)):Nat)),(10,S (u:Nat))]) (λ_=>[cw d d2]) 1 (λo:Nat=>fh<=o/\o<=d+1/\scanUp (λA=>!ltInt d2[t]! A) d2 (u) o=scanUp (λA=>!ltInt d2[t]! A) d2 (u) (fh)) (λo=>[(0,dw d),(1,S t),(9,S (o:Nat)),(10,S (u:Nat))]) (λ_=>[cw d d2]) (λo=>u+1-o) (fh) a ?_ a ?_ a ⟨bE _,by omega,a⟩ ?_ ?_)
  .simp[b4]<;>omega
  .simp
  .rintro c8 o ⟨I,C,s⟩;by_cases O:o<=u
   .by_cases L:(λA=>!ltInt d2[t]! A) d2[o]! = i
    .have X:ltInt d2[t]! d2[o]! = m:=J;refine bs h [31,-41] a xI (g.av (o+1) a Q Q ?_ ?_)
     .grind [w_]
     omega
    have X:ltInt d2[t]! d2[o]! = i:=J;refine bs h [31,41] a xI (g.aA ?_);exact JB
   refine bs h [-31] a bx (g.aA ?_);exact JB
  rintro⟨⟩ -;have v:=ud (U:=λA=>!ltInt d2[t]! A) (N:=d2) (y:=u) (u+1-fh) fh (bE _);obtain⟨ac,E⟩:∃ac,ac=scanUp (λA=>!ltInt d2[t]! A) d2 u fh:=⟨_,rfl⟩
  rw[<-E]at v⊢;refine c0 h a M (g.b4 (S2:=Unit) 4 a a (λ_=>True) (λ_=>[(0,dw d),(1,S t),(9,S (ac:Nat)),(10,S ((scanDown (λA=>ltInt d2[t]! A) d2 (ac) (u)):Nat))]) (λ_=>[cw d d2]) 1 (λo:Nat=>o<=u/\o<=d/\scanDown (λA=>ltInt d2[t]! A) d2 (ac) o=scanDown (λA=>ltInt d2[t]! A) d2 (ac) (u)) (λo=>[(0,dw d),(1,S t),(9,S (ac:Nat)),(10,S (o:Nat))]) (λ_=>[cw d d2]) (λo=>o) (u) a ?_ a ?_ a ⟨bE _,by omega,a⟩ ?_ ?_)
  .simp[b4]<;>omega
  .simp
  .rintro c8 o ⟨I,C,s⟩;by_cases O:ac<=o
   .by_cases L:(λA=>ltInt d2[t]! A) d2[o]! = i
    .have X:ltInt d2[t]! d2[o]! = i:=J;refine bs h [48,58] a xI (g.av (o-1) a bx Q B3 ?_);omega
    have X:ltInt d2[t]! d2[o]! = m:=J;refine bs h [48,-58] a xI (g.aA ?_);exact Ka
   refine bs h [-48] a bx (g.aA ?_);exact Ka
  rintro⟨⟩ -;have w:=uc (U:=λA=>ltInt d2[t]! A) (N:=d2) (f:=ac) u;obtain⟨r,B⟩:∃r,r=scanDown (λA=>ltInt d2[t]! A) d2 ac u:=⟨_,rfl⟩
  rw[<-B]at w⊢;have z:=Tj x E B;by_cases W:r<ac
  .have ak:=z;rw[l,bF W]at ak;refine bs h [64] a bx (g.aA ?_);exact K () J a LS a sq
  have ak:=z;rw[l,bp x]at ak;refine bs h [-64,909] a bx (g.bq [cw d (swp d2 ac r)] a ?_ ?_)
  .simp only[V.W,V,cX,dB,bl,bn];exact kb F x x (λ_ _=>rfl)
  refine c0 h a qr (g.av (ac+1,r-1,swp d2 ac r) a bx Q ?_ ?_)
  .grind [mr]
  grind
 rintro⟨⟩ ⟨ae,Z⟩;refine c0 h a M (g.aQ [0] a ?_ gN);simp
end
section
open Go.Sort (swp scanSorted shiftDown shiftUp partialIns partialInsertionSort ltInt)
variable {q:al R}
theorem HP{a:Array Int}(e:f<j)(d:ltInt a[f]! a[f-1]! = m):scanSorted ltInt a j f=scanSorted ltInt a j (f+1):=by rw[scanSorted.eq_1 ltInt a j f,bF J]
theorem w9{a:Array Int}(d:f<j->ltInt a[f]! a[f-1]! = i):scanSorted ltInt a j f=f:=by rw[scanSorted,bp];grind
def Uh{N:Array Int}:∀(d a:Nat),j-a<=d->a<=j->a<=scanSorted ltInt N j a/\scanSorted ltInt N j a<=j:=by
 intro d;induction d with
 |zero=>grind[w9]
 |succ d f=>
  intro a l g;by_cases e:a<j
  .cases h:ltInt N[a]! N[a-1]! with
   |false=>grind[HP]
   |true=>grind[w9]
  grind
theorem Ut{a:Array Int}(e:1<=y)(n:ltInt a[y]! a[y-1]! = i):shiftDown ltInt y a=shiftDown ltInt (y-1) (swp a y (y-1)):=by
 obtain⟨y,rfl⟩:∃d,y=d+1:=⟨y-1,by omega⟩
 simp only[qN]at n⊢;rw[shiftDown,bp hc]
theorem HX{a:Array Int}(d:1<=y->ltInt a[y]! a[y-1]! = m):shiftDown ltInt y a=a:=by
 cases y with
 |zero=>rfl
 |succ y=>
  have:=d x;simp only[qN]at this;rw[shiftDown,bF J]
theorem Uu{a:Array Int}(d:y<j)(n:ltInt a[y]! a[y-1]! = i):shiftUp ltInt j y a=shiftUp ltInt j (y+1) (swp a y (y-1)):=by rw[shiftUp.eq_1 ltInt j y a,bF d,bp hc]
theorem HY{a:Array Int}(d:y<j->ltInt a[y]! a[y-1]! = m):shiftUp ltInt j y a=a:=by rw[shiftUp];grind
abbrev o6(f a d e g:Nat):bd:=[(0,dw f),(1,S a),(2,S d),(7,S e),(8,S (5-(g:Int)))]
def Tn{d e:Nat}{a:Array Int}:partialIns ltInt d j (e+1) f a=(if scanSorted ltInt a j f=j then(a,i)else if j-d<50 then(a,m)else
  partialIns ltInt d j e (scanSorted ltInt a j f) (if j-scanSorted ltInt a j f≥2 then shiftUp ltInt j (scanSorted ltInt a j f+1) (if scanSorted ltInt a j f-d≥2 then shiftDown ltInt (scanSorted ltInt a j f-1) (swp a (scanSorted ltInt a j f) (scanSorted ltInt a j f-1))else swp a (scanSorted ltInt a j f) (scanSorted ltInt a j f-1))else(if scanSorted ltInt a j f-d≥2 then shiftDown ltInt (scanSorted ltInt a j f-1) (swp a (scanSorted ltInt a j f) (scanSorted ltInt a j f-1))else swp a (scanSorted ltInt a j f) (scanSorted ltInt a j f-1)))):=rfl
def E4(e:Nat)(N:Array Int)(r j:Nat)(X:N.size=e)(ae:r<j)(ah:j<=e)(aj:e<=4000000):
  ad q 182 [dw e,S r,S j] [cw e N] (bm (partialInsertionSort ltInt N r j).2) [cw e (partialInsertionSort ltInt N r j).1]:=by
 have n:a3 q [(183,oI)]:=.cons qn .nil;refine ad.E func182 rfl λai=>?_;obtain⟨v,I⟩:∃v,partialIns ltInt r j 5 (r+1) N=v:=⟨_,rfl⟩;have W:partialInsertionSort ltInt N r j=v:=I;rw[W];refine c0 n a bH ?_
 refine g.b4 (S2:=Unit) 0 a a (λ_=>v.2=m) (λ_=>[(0,dw e)]) (λ_=>[cw e v.1]) 1 (λd:Nat×Nat×Array Int=>d.2.2.size=e/\d.1<=5/\r+1<=d.2.1/\d.2.1<=j/\partialIns ltInt r j d.1 d.2.1 d.2.2=v) (λd=>o6 e r j d.2.1 d.1) (λd=>[cw e d.2.2]) (λd=>d.1) (5,r+1,N) a Q a Q a ⟨X,by grind,by grind,by grind,I⟩ ?_ ?_
 .rintro Z ⟨d,f,d1⟩ ⟨bi,O,A,w,t⟩;simp only at bi O A w t;cases d with
  |zero=>
   rw[partialIns]at t;refine bs n [-14] a Q (g.aA ?_);exact Z () J a Q a (by simp[b4,<-t])
  |succ d=>
   rw[Tn]at t;refine bs n [14] a bx (g.b4 (S2:=Unit) 2 a a (λ_=>True) (λ_=>o6 e r j (scanSorted ltInt d1 j f) (d+1)) (λ_=>[cw e d1]) 1 (λo:Nat=>f<=o/\o<=j/\scanSorted ltInt d1 j o=scanSorted ltInt d1 j f) (λo=>o6 e r j o (d+1)) (λ_=>[cw e d1]) (λo=>j-o) f a Q a Q a ⟨bE _,w,a⟩ ?_ ?_)
   .rintro c8 o ⟨P,ab,bg⟩;by_cases af:o<j
    .have bR:((o:Int)-1).toNat=o-1:=x;cases be:ltInt d1[o]! d1[o-1]! with
     |false=>
      refine bs n [19,-30] a Jt (g.av (o+1) a Q Q ?_ ?_)
      .grind [HP]
      omega
     |true=>
      refine bs n [19,30] a Jt (g.aA ?_);have ak:scanSorted ltInt d1 j f=o:=by grind[w9]
      exact c8 () M a bx a Q
    refine bs n [-19] a bx (g.aA ?_);have ak:scanSorted ltInt d1 j f=o:=by grind[w9]
    exact c8 () M a bx a Q
   rintro⟨⟩ -;have Y:=Uh (N:=d1) (j:=j) (j-f) f (bE _) w;obtain⟨h,H⟩:∃h,h=scanSorted ltInt d1 j f:=⟨_,rfl⟩;rw[<-H]at Y t⊢
   by_cases E:h=j
   .rw[bF E]at t;rw[<-t];refine bs n [37] a ?_ (g.aV (b3.mk [0] a ?_ a a a gN))
    .simp[E]
    simp
   rw[bp E]at t;by_cases C:j-r<50
   .rw[bF C]at t;rw[<-t];refine bs n [-37,41] a sm (g.aV (b3.mk [0] a ?_ a a a gN));simp
   rw[bp C]at t;have bR:((h:Int)-1).toNat=h-1:=x;refine bs n [-37,-41,912] a ?_ ?_
   .simp only[V,cX,dB,bR,a9,d6,gn,e3,bn,bl];exact e_
   refine g.bq [cw e (swp d1 h (h-1))] a ?_ ?_
   .simp only[V.W,V,cX,dB,bR,bl,bn];exact kb bi x x (λ_ _=>rfl)
   have R:(swp d1 h (h-1)).size=e:=qs;obtain⟨d2,s⟩:∃d2,d2=swp d1 h (h-1):=⟨_,rfl⟩;rw[<-s]at R t⊢;obtain⟨d3,y⟩:∃d3,d3=if h-r≥2 then shiftDown ltInt (h-1) d2 else d2:=⟨_,rfl⟩
   rw[<-y]at t;have ag:∀(p:Nat) (N:Array Int),(shiftDown ltInt p N).size=N.size:=by
    intro p;induction p with
    |zero=>intro N;rfl
    |succ p al=>
     intro N;rw[shiftDown];exact qs
   have T:d3.size=e:=J;apply g.b5 (o6 e r j h (d+1)) [cw e d3]
   .intro c8;by_cases F:h-r≥2
    .rw[bF F]at y;refine bs n [61] a qv (g.b4 (S2:=Unit) 4 a a (λ_=>True) (λ_=>o6 e r j h (d+1)) (λ_=>[cw e d3]) 1 (λd:Nat×Array Int=>d.2.size=e/\d.1<j/\shiftDown ltInt d.1 d.2=d3) (λu=>o6 e r j h (d+1)++[(9,S u.1)]) (λd=>[cw e d.2]) (λd=>d.1) (h-1,d2) a bx a Q a ⟨R,by grind,y.symm⟩ ?_ ?_)
     .rintro l ⟨p,d4⟩ ⟨U,z,B⟩;simp only at U z B;by_cases K:1<=p
      .have bk:((p:Int)-1).toNat=p-1:=x;cases be:ltInt d4[p]! d4[p-1]! with
       |true=>
        refine bs n [65,77] a xF (g.av (p-1,swp d4 p (p-1)) a bx Kh ?_ ?_)
        .grind [Ut]
        grind
       |false=>
        refine bs n [65,-77] a xF (g.aA ?_);have ak:d3=d4:=by grind[HX]
        exact l () M a Q a sq
      refine bs n [-65] a bx (g.aA ?_);have ak:d3=d4:=by grind[HX]
      exact l () M a Q a sq
     rintro⟨⟩ -;exact bs n [918] a M sg
    rw[bp F]at y;rw[<-y];exact bs n [-61,918] a xG sg
   by_cases L:j-h≥2
   .rw[bF L]at t;obtain⟨eE,D⟩:∃eE,shiftUp ltInt j (h+1) d3=eE:=⟨_,rfl⟩;rw[D]at t;refine bs n [98] a qv ?_
    refine g.b4 (S2:=Unit) 6 a a (λ_=>eE.size=e) (λ_=>o6 e r j h (d+1)) (λ_=>[cw e eE]) 1 (λd:Nat×Array Int=>d.2.size=e/\1<=d.1/\d.1<=j/\shiftUp ltInt j d.1 d.2=eE) (λu=>o6 e r j h (d+1)++[(10,S u.1)]) (λd=>[cw e d.2]) (λd=>j-d.1) (h+1,d3) a Q a Q a ⟨T,by grind,by grind,D⟩ ?_ ?_
    .rintro l ⟨p,d4⟩ ⟨U,K,z,B⟩;simp only at U K z B;by_cases aq:p<j
     .have bk:((p:Int)-1).toNat=p-1:=x;cases be:ltInt d4[p]! d4[p-1]! with
      |true=>
       refine bs n [103,115] a xF (g.av (p+1,swp d4 p (p-1)) a Q Kh ?_ ?_)
       .grind [mr,Uu]
       grind
      |false=>
       refine bs n [103,-115] a xF (g.aA ?_);have ak:eE=d4:=by grind[HY]
       exact l () J a Q a sq
     refine bs n [-103] a bx (g.aA ?_);have ak:eE=d4:=by grind[HY]
     exact l () J a Q a sq
    rintro⟨⟩ O;refine c0 n a pk (g.av (d,h,eE) a bx Q J ?_);grind
   rw[bp L]at t;refine bs n [-98] a xG (g.av (d,h,d3) a bx Q J ?_);grind
 rintro⟨⟩ G;refine c0 n a M (g.aQ [0] a ?_ gN);simp[G]
end
section
open Go.Sort (swp pdq rd Rd Below SWO insertionSort heapSort breakPatterns choosePivot reverseRange partialInsertionSort partition partitionEqual Hint ltInt PermIn SortedIn)
variable {q:al R}
abbrev t_(h e f g:Nat)(a d:Bool):bd:=[(0,dw h),(1,S e),(2,S f),(3,S g),(8,bm a),(9,bm d)]
def FS{a:Hint}:oW a=2↔a=.decreasing:=by cases a<;>simp[oW]
def RP{a:Hint}:oW a=1↔a=.increasing:=by cases a<;>simp[oW]
structure Mf where
 cj:Nat
 dJ:Nat
 lim:Nat
 hM:Bool
 hO:Bool
 cD:Array Int
def Ps(a:Nat)(d:Array Int){t:Nat}(f:d.size=a)(l:j<=a)(g:t<=a)(n:a<=4000000){e:Array Int}(h:e=insertionSort ltInt d t j):ad q 177 [dw a,S t,S j] [cw a d] (.C []) [cw a e]:=by grind[Pq]
def Pc(a:Nat)(d:Array Int){t:Nat}(g:d.size=a)(f:t<=j)(l:1<=j-t)(n:j<=a)(o:a<=4000000){e:Array Int}(h:e=heapSort ltInt d t j):ad q 178 [dw a,S t,S j] [cw a d] (.C []) [cw a e]:=by grind[O']
def Qr(o:Nat)(v:o<=4000000):∀(ar:Nat)(N:Array Int)(t j lim:Nat),j-t<=ar->N.size=o->t<=j->j<=o->lim<=100->Below ltInt t j N ->
  ∀{A aL aM:Int},A=t->aL=j->aM=lim->∀{al:Array Int},al=pdq ltInt N t j lim i i->ad q 145 [dw o,S A,S aL,S aM] [cw o N] (.C []) [cw o al]:=by
 have f:a3 q [(183,oI)]:=.cons qn .nil;have D:SWO ltInt:=Go.Sort.swo_ltInt;have aZ:=Go.Sort.partialInsertionSort_holds (lt:=ltInt);have ah:=Go.Sort.partition_holds ltInt;have a1:=Go.Sort.partitionEqual_holds ltInt;have aT:=Go.Sort.reverseRange_holds (α:=Int);have L:=Go.Sort.pdq_sorts ltInt;intro ar;induction ar using Nat.strongRecOn with
 |_ ar ai=>
 intro N t j lim a5 ae ab aA aC ao A aL aM aE aF aG al Z;subst aE aF aG;refine ad.E func145 rfl λaB=>?_;refine c0 f a M (g.aN 1 (λp:Mf=>p.cD.size=o/\p.cj<=p.dJ/\p.dJ<=o/\p.lim<=100/\p.dJ-p.cj<=j-t/\Below ltInt p.cj p.dJ p.cD/\pdq ltInt p.cD p.cj p.dJ p.lim p.hM p.hO=al) (λp=>t_ o p.cj p.dJ p.lim p.hM p.hO) (λp=>[cw o p.cD]) (λp=>p.dJ-p.cj) ⟨t,j,lim,i,i,N⟩ a Q a Q a ⟨ae,ab,aA,aC,bE _,ao,Z.symm⟩ ?_);clear aB ao ae Z;rintro⟨h,l,r,e,n,d1⟩ ⟨T,au,u,af,ag,ao,O⟩;simp only at T au u af ag ao O;by_cases C:l-h<=12
 .rw[Go.Sort.pdq_small C]at O;refine bs f [23] a ?_ ?_
  .simp only[V,a9,bM];exact e_
  exact g.aF (Ps o d1 (t:=h) (j:=l) T u x v O.symm) [0] a Cd
 by_cases R:r=0
 .rw[Go.Sort.pdq_heap C R]at O;refine bs f [-23,29] a ?_ ?_
  .simp only[V,a9,d6,gZ];exact e_
  exact g.aF (Pc o d1 (t:=h) (j:=l) T au x u v O.symm) [0] a Cd
 have aj:h<l:=x;obtain⟨X,a2,f3,f4,f5,f6,f7,f8⟩:=Go.Sort.rd_facts (limit:=r) (wb:=e) (wp:=n) D aZ aT aj J ao;have a4:=Go.Sort.rd_lim_le (lt:=ltInt) (d:=d1) (a:=h) (b:=l) (limit:=r) (wb:=e) (wp:=n);have aU:=Go.Sort.rd_dec (lt:=ltInt) (d:=d1) (a:=h) (b:=l) (limit:=r) (wb:=e) (wp:=n);have aq:=Go.Sort.rd_not (lt:=ltInt) (d:=d1) (a:=h) (b:=l) (limit:=r) (wb:=e) (wp:=n);have G:=Go.Sort.rd_pi_yes (lt:=ltInt) (d:=d1) (a:=h) (b:=l) (limit:=r) (wb:=e) (wp:=n);have aQ:=Go.Sort.rd_pi_no (lt:=ltInt) (d:=d1) (a:=h) (b:=l) (limit:=r) (wb:=e) (wp:=n);have ax:=Go.Sort.rd_c (lt:=ltInt) (d:=d1) (a:=h) (b:=l) (limit:=r) (wb:=e) (wp:=n);have Y:e=m->(rd ltInt d1 h l r e n).d1=breakPatterns d1 h l/\(rd ltInt d1 h l r e n).lim=r-1:=by grind[Go.Sort.rd_false]
 have a0:e=i->(rd ltInt d1 h l r e n).d1=d1/\(rd ltInt d1 h l r e n).lim=r:=by grind[Go.Sort.rd_true]
 have aN:=Go.Sort.pdq_done (lt:=ltInt) (d:=d1) (wb:=e) (wp:=n) C R;have geq:=Go.Sort.pdq_eq (lt:=ltInt) (d:=d1) (wb:=e) (wp:=n) C R;have s:=Go.Sort.pdq_left (lt:=ltInt) (d:=d1) (wb:=e) (wp:=n) C R;have aS:=Go.Sort.pdq_right (lt:=ltInt) (d:=d1) (wb:=e) (wp:=n) C R;rw[T]at X f4 f7;rw[O]at aN geq s aS;generalize rd ltInt d1 h l r e n=d at *;apply g.b5 (t_ o h l d.lim e n++[(10,S ((l-h:Nat):Int))]) [cw o d.d1]
 .intro c8;cases e with
  |false=>
   obtain⟨H,K⟩:=Y rfl;refine bs f [-23,-29] a Km (g.aF (Oi o d1 h l T au u v) [0] a ?_);rw[<-H];refine bs f [910] a qr ?_;exact c8 _ _ a (by simp only[V.W,V,K,bn,bl];and_intros<;>omega)
  |true=>
   obtain⟨H,K⟩:=a0 rfl;subst H;exact bs f [-23,-29,910] a Km (c8 _ _ a bx)
 refine c0 f a M (g.aF (Oj o d.d1 h l au u x v) [0] a ?_);rw[<-ax];apply g.b5 (t_ o h l d.lim e n++[(10,S ((l-h:Nat):Int)),(11,S d.pivot),(12,S (oW d.hint))]) [cw o d.d2]
 .intro c8;by_cases aO:d.c.2=.decreasing
  .obtain⟨H,K,z⟩:=aU aO;refine bs f [50] a ?_ ?_
   .simp only[V,gZ,FS];omega
   refine g.aF (QD o d.d1 h l X x x u v) [0] a ?_;rw[<-H];exact bs f [915] a qr (c8 _ _ a (by simp only[V.W,V,K,z,oW,bn,bl];omega))
  obtain⟨H,K,z⟩:=aq aO;rw[<-H];refine bs f [-50,915] a ?_ ?_
  .simp only[V,gn,e3,FS];omega
  exact c8 _ _ a (by simp only[V.W,V,K,z,bn,bl])
 by_cases B:d.pi.2=i
 ·
  have aH:(e&&n&&decide (d.hint=.increasing))=i:=J;have U:=G aH;simp only[ct,bM]at aH;obtain⟨⟨rfl,rfl⟩,aV⟩:=aH;refine bs f [67] a bH (g.aF (E4 o d.d2 h l f4 aj u v) [0] a ?_);rw[<-U,B,<-aN B];exact Cd
 rw[pE]at B;apply g.b5 (t_ o h l d.lim e n++[(10,S ((l-h:Nat):Int)),(11,S d.pivot)]) [cw o d.pi.1]
 .intro c8;cases y:(e&&n&&decide (d.hint=.increasing))with
  |true=>
   have U:=G y;simp only[ct,bM]at y;obtain⟨⟨rfl,rfl⟩,aV⟩:=y;refine bs f [67] a bH (g.aF (E4 o d.d2 h l f4 aj u v) [0] a ?_);rw[<-U,B];exact B8
  |false=>
   have U:d.d2=d.pi.1:=J;rw[U];cases e with
   |false=>
    exact B8
   |true=>
    cases n with
    |false=>
     exact B8
    |true=>
     refine bs f [-67,917] a ?_ ?_
     .simp only[V,gn,e3,RP];grind
     exact sg
 have W:((h:Int)-1).toNat=h-1:=x;cases y:(decide (h>0)&&!ltInt d.pi.1[h-1]! d.pi.1[d.pivot]!)with
 |true=>
  have aw:=y;simp only[ct,bM,iG]at aw;obtain⟨F,w,I,E,_⟩:=Go.Sort.round_eq (mid:=(partitionEqual ltInt d.pi.1 h l d.pivot).1) (d4:=(partitionEqual ltInt d.pi.1 h l d.pivot).2) D a1 aw.1 f6.1 f6.2 J f8 aw.2 rfl;have an:=geq B y ⟨F,w⟩;refine bs f [74,-85] a ?_ ?_
  .simp only[V,cX,dB,W,aw.2,a9,bM,bn,bl];exact e_
  refine g.aF (Qo o d.pi.1 h l d.pivot f7 aj u x v) [0] a (c0 f a M (g.av ⟨(partitionEqual ltInt d.pi.1 h l d.pivot).1,l,d.lim,e,n,(partitionEqual ltInt d.pi.1 h l d.pivot).2⟩ a Q Q J ?_));grind
 |false=>
  obtain⟨F,w,I,E,ak,aJ,aK⟩:=Go.Sort.round_part (mid:=(partition ltInt d.pi.1 h l d.pivot).1) (ap:=(partition ltInt d.pi.1 h l d.pivot).2.1) (d4:=(partition ltInt d.pi.1 h l d.pivot).2.2) D ah f6.1 f6.2 J f8 rfl;apply g.b5 (t_ o h l d.lim e n++[(10,S ((l-h:Nat):Int)),(11,S d.pivot)]) [cw o d.pi.1]
  .intro c8;by_cases aR:0<h
   .have aY:ltInt d.pi.1[h-1]! d.pi.1[d.pivot]! = i:=J;refine bs f [74,85,920] a ?_ ?_
    .simp only[V,cX,dB,W,aY,a9,bM,bn,bl];exact e_
    exact sg
   exact bs f [-74,920] a bx sg
  refine c0 f a M (g.aF (Qn o d.pi.1 h l d.pivot f7 aj u x v) [0] a ?_);have ay:=s B y ⟨F,w⟩;have az:=aS B y ⟨F,w⟩;generalize partition ltInt d.pi.1 h l d.pivot=P at *;rw[f7]at I;by_cases aP:P.1-h<l-P.1
  .have an:=ay aP;obtain⟨w1,w2⟩:=L D P.2.2 h P.1 d.lim i i F J E;obtain⟨w3,_⟩:=aJ _ w1 w2;refine bs f [113] a qv (g.aF (ai (P.1-h) x P.2.2 h P.1 d.lim (bE _) I F x x E a a a a) [0] a (c0 f a LG (g.av ⟨P.1+1,l,d.lim,decide (P.1-h≥(l-h) / 8),P.2.1,pdq ltInt P.2.2 h P.1 d.lim i i⟩ a bx Q ?_ ?_)))
   .exact⟨by simp only;rw[w1.1,I],by grind,u,by grind,by grind,w3,an.symm⟩
   grind
  have an:=az aP;obtain⟨w1,w2⟩:=L D P.2.2 (P.1+1) l d.lim i i x J ak;obtain⟨w3,_⟩:=aK _ w1 w2;refine bs f [-113] a xG (g.aF (ai (l-(P.1+1)) x P.2.2 (P.1+1) l d.lim (bE _) I x u x ak (A:=(P.1:Int)+1) x a a a) [0] a (c0 f a ?_ (g.av ⟨h,P.1,d.lim,decide (l-P.1≥(l-h) / 8),P.2.1,pdq ltInt P.2.2 (P.1+1) l d.lim i i⟩ a ?_ ?_ ?_ ?_)))
  .trivial
  .exact bx
  .simp
  .exact⟨by simp only;rw[w1.1,I],by grind,by grind,by grind,by grind,w3,an.symm⟩
  grind
end
section
variable {q:al R}[q.bT]
def M2(f:e a'):∀d,d<c f->c (bf.fn f d)=2/\∀h∈bf.fn f d,lm h=i:=by intro d _;refine⟨a,λh g=>?_⟩;simp only[dO.fn,hH,bf,ef,oz,pI]at g;rcases g with rfl|rfl<;>rfl
abbrev lN(a:e a')(O:e I):Prop:=fM 2 (c a) (bf.fn a) O
abbrev yw(a:dy)(d:Nat)(O:e I):Y:=.Q (cg 74 2 a d O)
abbrev VM(a:dy)(e:Nat)(d:Bool):s:=.C [.S (.v (cT a e)),.S (.c (.bool d))]
def Q6(f:e a')(a g:an):bG (ι:={d:dy×e I // lN (e9 f a g).1 d.2}) q 38 [bf.M f,bC a,bC g] [] (λd=>VM d.1.1 (e9 f a g).1.length (e9 f a g).2) (λd=>[yw d.1.1 (e9 f a g).1.length d.1.2]):=
 (Fi f a g).thaw func38 rfl (by simp[wF,tT,rJ,o3,mc,lm]) (M2 _)
def fM.nil{e:Nat}:fM e 0 es []:=⟨by simp,λd a=>by omega,λd a=>by omega⟩
def TG{g:e a'}{f h:an}(a:(e9 g f h).2=i):(e9 g f h).1.length<=6:=by
 unfold e9 at a⊢;split at a
 .rename_i j;rw[bF j];split at a
  .rename_i d;rw[bF d];exact r9 d
  grind
 grind
def MC{d e:Z}(f:r.op=.call {callee:=.builtin .append,args:=#[d,e],argTypes:=#[28,28]}):h9 R r d e 74 nT:=
 ⟨⟨28,28,Aj,Aj,f,(bv _ _ a),rfl,(bv _ _ a),rfl⟩,(bv _ _ a),by decide,by decide⟩
def HB{d:an}(e:c d<=9223372036854775807):Rd bi (ca d) (.R d):=Rd.R a e
def lN.eY{g:e a'}{O:e I}(q:lN g O)(d A:an)(n:c d<=9223372036854775807)(o:c A<=9223372036854775807):lN (g++[(d,A)]) (O++[ca d,ca A]):=by
 unfold lN;rw[dZ];refine fM.eY q (λs h=>?_) a a λj r f=>?_
 .simp[dO.fn,hH,av,jE h]
 have p:bf.fn (g++[(d,A)]) (c g)=[.R d,.R A]:=by simp[dO.fn,hH,bf]
 rw[p]at f;rcases j with _|_|j
 .simp at f;subst f;exact⟨ca d,a,λl=>HB n⟩
 .simp at f;subst f;exact⟨ca A,a,λl=>HB o⟩
 grind
def lN.jT{f:e a'}(q:lN f O)(d:Nat)(g:d<c f)(h:an)(o:mM z [.c (.R h)]):lN (f.set d ((f.getD d bf.N).1,h)) (O.take (d*2+1)++z++O.drop (d*2+1+c z)):=by
 unfold lN;rw[List.length_set];refine fM.fA q d 1 g o (bE _) (λt s l=>?_) a λj r n=>?_
 .simp[dO.fn,hH,av,Ne.symm l]
 have p:bf.fn (f.set d ((f.getD d bf.N).1,h)) d=[.R (f.getD d bf.N).1,.R h]:=by simp[dO.fn,hH,bf,av,g]
 rw[p]at n;rcases j with _|_|j
 .right;exact bH
 .grind
 grind
structure sG(o u:Nat) where
 dE:e a'
 gA:dy
 hQ:e I
 k1:Nat
 fW:lN dE hQ
 gQ:c dE<=7
 iS:o<=k1
 kh:k1<=o+u
set_option maxRecDepth 20000 in
def Fd(j:Nat)(h:Nat->Int)(u:Bytes h)(o:Nat)(af:o<=50000)(w:j<=1048576):
  bG (ι:=sG o 400) q 15 [ba 0 0] [dD j h o] (λr=>ce (cT r.gA (c r.dE))) (λr=>[dD j h r.k1,yw r.gA (c r.dE) r.hQ]):=by
 refine bG.cO func15 rfl rfl rfl λH=>?_;refine is [] 9 a M (g.jr 3 74 2 a λW=>?_);refine a8 a M (g.a4 (jg j h u o 6 x w x) [0] a bN ?_);rintro⟨y,ai,aj⟩;refine a8 a M (g.aN 2 (λd:Nat×e a'×dy×e I×Nat=>d.1<=5/\lN d.2.1 d.2.2.2.1/\c d.2.1<=6/\o<=d.2.2.2.2/\d.2.2.2.2+70*d.1<=o+351) (λd=>[(0,ba 0 0),(4,S d.1),(3,ce (cT d.2.2.1 (c d.2.1)))]) (λd=>[dD j h d.2.2.2.2,yw d.2.2.1 (c d.2.1) d.2.2.2.1]) (λd=>d.1) (y.toNat,[],W,[],o+1) a cb a Q a ⟨by omega,fM.nil,by simp,by simp,by grind⟩ ?_);rintro⟨p,f,b',O,k1⟩ ⟨Y,N,ad,G,Z⟩;simp only at Y N ad G Z;by_cases P:0<p
 .refine a_ [11] a (by simp[P]) (g.a4 (vU j h u k1 x w) [0] a bN ?_);rintro⟨n,ab⟩;refine a8 a M (g.a4 (Fb j h u (k1+1+1) x w) [0] a bN ?_);rintro⟨⟨K,R⟩,ae,al,ag⟩;simp only at ae al ag;refine a8 a M (g.ib (Q6 f n K) 1 0 a a a a (cg.eP a (bf.fn f) N.rd) a Q a bN bN a ?_);rintro⟨⟨A,ix⟩,T⟩;simp only at T⊢;cases s:(e9 f n K).2 with
  |true=>
   have D:=TG s;generalize(e9 f n K).1=F at T D⊢;refine is [] 6 a M (g.swap 1 2 cz a a (λy B E=>E.1) (λy B E=>E.1) ?_);refine a_ [23] a sm (g.av (p-1,F,A,ix,R) a cb Q J ?_);grind
  |false=>
   refine a_ [-23] a bH (g.av (p-1,f,b',O,R) a cb Q J ?_);grind
 obtain rfl:p=0:=x;refine a_ [-11] a Q (g.aA ?_);refine a8 a M (g.a4 (jg j h u k1 40 x w x) [0] a bN ?_);rintro⟨U,aq,ar⟩;by_cases L:U=0
 .refine a_ [27] a (by simp[L]) (g.a4 (vU j h u (k1+1) x w) [0] a bN ?_);rintro⟨n,ab⟩;refine a8 a M (g.e7 (l:=1) (b':=b') (O:=O) (p:=c f) (dQ:=[ca n,ca [97]]) (MC a) a a a a a a a a (λao y ay ax au aw=>?_) (by show _*32<=_;omega) λA=>?_)
  .grind [r3]
  refine a8 a M (g.bS ⟨f++[(n,[97])],A,O++[ca n,ca [97]],k1+1+1+1,N.eY n [97] x cz,by grind,by omega,by omega⟩ (g.aQ [0,1] a Q ?_ (N:=qu)));grind
 by_cases an:U=1
 .by_cases C:0<c f
  .refine g.fV (cg.len (l:=1) a) λak=>?_;obtain⟨X,t,rfl⟩:=ak.2.2.1 C;refine a_ [-27,35,39] a bx (g.fC bv 1 a a a a a a a J a a λz v=>?_);have ah:=N.jT 0 C [65] v;refine a8 a M (g.bS ⟨f.set 0 ((f.getD 0 bf.N).1,[65]),.row X t,_,k1+1,ah,by grind,by omega,by omega⟩ (g.aQ [0,1] a Q ?_ (N:=qu)));grind
  cases b';all_goals
   refine a_ [-27,35,-39] a ?_ (g.bS ⟨f,_,O,k1+1,N,by omega,by omega,by omega⟩ (g.aQ [0,1] a ?_ ?_))
   .simp[C,an]<;>omega
   .simp
   grind
 refine a_ [-27,-35] a bx (g.bS ⟨f,b',O,k1+1,N,by omega,by omega,by omega⟩ (g.aQ [0,1] a Q ?_));grind
def Q5(e:Nat)(d:Nat->Int)(h:Bytes d)(o:Nat)(f:o<=50000)(g:e<=1048576):
  bG (ι:=sG o 400) q 15 [ba 0 0] [dD e d o] (λa=>bf.M a.dE) (λa=>[dD e d a.k1]):=
 bG.eJ (a6:=λa:sG o 400=>[dD e d a.k1]) (o:=2) (p:=λa:sG o 400=>c a.dE) (es:=λa:sG o 400=>bf.fn a.dE) (Fd e d h o f g) (λa=>a.fW) bN (λ_=>bE _)
end
section
open Go.Proofs Go.Extern
abbrev fB:ab:=55
abbrev dH:ab:=53
abbrev oh:ab:=182
abbrev aG(a:ab):I:=.pointer (b ⟨6,a,k⟩)
abbrev lz(a:ab):I:=.iface oh (.agg #[aG a])
abbrev jy(e:ab)(d:Nat)(a:Int):I:=.agg #[aG e,.pointer (b ⟨d,0,k⟩),.int .u64 a]
def I0:iz R 69 λargs=>ReflectliteValue.unpack (args.getD 0 (.tuple #[])):=⟨_,Tryz.func69,by kernel_rfl,by kernel_rfl,by kernel_rfl,by kernel_rfl⟩
def T0(d:Addr)(a:af):(ReflectliteValue.unpack (.iface fB (.pointer (b d)))).run R a=.ok (jy fB a.heap.size 150) (a.alloc (.cells #[.pointer (b d)] fB)):=bO
def NY(d:Addr)(e:af)(a:Array ay):(ReflectliteValue.unpack (.iface fB (.pointer (b d)))).events R e a=a:=bO
def TZ(d:Addr)(a:af):(ReflectliteValue.unpack (.iface dH (.pointer (b d)))).run R a=.ok (jy dH a.heap.size 150) (a.alloc (.cells #[.pointer (b d)] dH)):=bO
def NX(d:Addr)(e:af)(a:Array ay):(ReflectliteValue.unpack (.iface dH (.pointer (b d)))).events R e a=a:=bO
def WV:iz R 70 (ReflectliteValue.methodAny (ReflectliteValue.valueError "reflectlite.Value.Type" 0) λa _ _ _=>ReflectliteType.toType a):=⟨_,Tryz.func70,by kernel_rfl,by kernel_rfl,by kernel_rfl,by kernel_rfl⟩
def TX(d:Nat)(a:af):(ReflectliteValue.methodAny (ReflectliteValue.valueError "reflectlite.Value.Type" 0) (λe _ _ _=>ReflectliteType.toType e) #[jy fB d 150]).run R a=.ok (lz fB) a:=bO
def NV(d:Nat)(f:af)(a:Array ay):(ReflectliteValue.methodAny (ReflectliteValue.valueError "reflectlite.Value.Type" 0) (λe _ _ _=>ReflectliteType.toType e) #[jy fB d 150]).events R f a=a:=bO
def Gt(d:I)(e:af):(Go.method (Tryz.prog.types.size+Made.depth) oh (.agg #[d]) "Kind").run R e=.ok (279,d) e/\∀a,(Go.method (Tryz.prog.types.size+Made.depth) oh (.agg #[d]) "Kind").events R e a=a:=⟨by kernel_rfl,λa=>by kernel_rfl⟩
def IZ:iz R 279 (ReflectliteType.abiMethod λa=>do pure (.int .u8 (<-Rtype.kind a))):=⟨_,Tryz.func279,by kernel_rfl,by kernel_rfl,by kernel_rfl,by kernel_rfl⟩
def TV(a:af):((ReflectliteType.abiMethod λd=>do pure (.int .u8 (<-Rtype.kind d))) #[aG fB]).run R a=.ok (.int .u8 22) a:=bO
def NT(e:af)(a:Array ay):((ReflectliteType.abiMethod λd=>do pure (.int .u8 (<-Rtype.kind d))) #[aG fB]).events R e a=a:=bO
def TU(a:af):((ReflectliteType.abiMethod λd=>do pure (.int .u8 (<-Rtype.kind d))) #[aG dH]).run R a=.ok (.int .u8 22) a:=bO
def NS(e:af)(a:Array ay):((ReflectliteType.abiMethod λd=>do pure (.int .u8 (<-Rtype.kind d))) #[aG dH]).events R e a=a:=bO
def WS:iz R 71 (ReflectliteValue.method (ReflectliteValue.valueError "reflectlite.Value.IsNil" 0) ReflectliteValue.isNil):=⟨_,Tryz.func71,by kernel_rfl,by kernel_rfl,by kernel_rfl,by kernel_rfl⟩
def HF(f:Sem I)(d:ab->Addr->Nat->Nat->Sem I)(e:I):ReflectliteValue.method f d #[e]=(do match<-ReflectliteValue.parts e with|none=>f|some (h,g,a)=>d h g a (a % 32)):=rfl
def rS(d:Nat)(e:af):(ReflectliteValue.parts (jy fB d 150)).run R e=.ok (b (fB,⟨d,0,k⟩,150)) e/\∀a,(ReflectliteValue.parts (jy fB d 150)).events R e a=a:=⟨by kernel_rfl,λa=>by kernel_rfl⟩
def TT(d:Nat)(l:Addr)(e:af)(h:e.cell? ⟨d,0,k⟩=b (.pointer (b l))):(ReflectliteValue.method (ReflectliteValue.valueError "reflectlite.Value.IsNil" 0) ReflectliteValue.isNil #[jy fB d 150]).run R e=.ok (.bool m) e /\
  ∀a,∀f∈(ReflectliteValue.method (ReflectliteValue.valueError "reflectlite.Value.IsNil" 0) ReflectliteValue.isNil #[jy fB d 150]).events R e a,f∈a∨f=⟨.cell ⟨d,0,k⟩,m,m⟩:=by
 have j:=Tryz.underlying55;rw[HF];constructor
 .simp only[cn,(rS d e).1,cM];simp[ReflectliteValue.isNil,loadVar,isAgg,underlying,j,h]
 intro a f g;simp only[aE,cn,(rS d e).1,(rS d e).2,cM,aH]at g;simpa[ReflectliteValue.isNil,loadVar,isAgg,underlying,j,h,show(Mode.plain==Mode.atomic)=m from rfl]using g
def SB(d:I)(e:af):(Go.method (Tryz.prog.types.size+Made.depth) oh (.agg #[d]) "Elem").run R e=.ok (296,.agg #[d]) e/\∀a,(Go.method (Tryz.prog.types.size+Made.depth) oh (.agg #[d]) "Elem").events R e a=a:=⟨by kernel_rfl,λa=>by kernel_rfl⟩
def WP:iz R 296 (ReflectliteType.method ReflectliteType.elem):=⟨_,Tryz.func296,by kernel_rfl,by kernel_rfl,by kernel_rfl,by kernel_rfl⟩
def TQ(a:af):(ReflectliteType.method ReflectliteType.elem #[.agg #[aG fB]]).run R a=.ok (lz dH) a:=bO
def NP(d:af)(a:Array ay):(ReflectliteType.method ReflectliteType.elem #[.agg #[aG fB]]).events R d a=a:=bO
def SC(d:I)(e:af):(Go.method (Tryz.prog.types.size+Made.depth) oh (.agg #[d]) "Implements").run R e=.ok (297,.agg #[d]) e/\∀a,(Go.method (Tryz.prog.types.size+Made.depth) oh (.agg #[d]) "Implements").events R e a=a:=⟨by kernel_rfl,λa=>by kernel_rfl⟩
def WR:iz R 297 (ReflectliteType.relation "Implements" ReflectliteType.implements_):=⟨_,Tryz.func297,by kernel_rfl,by kernel_rfl,by kernel_rfl,by kernel_rfl⟩
def TS(a:af):(ReflectliteType.relation "Implements" ReflectliteType.implements_ #[.agg #[aG dH],lz 50]).run R a=.ok (.bool i) a:=bO
def NR(d:af)(a:Array ay):(ReflectliteType.relation "Implements" ReflectliteType.implements_ #[.agg #[aG dH],lz 50]).events R d a=a:=bO
def SA(d:I)(e:af):(Go.method (Tryz.prog.types.size+Made.depth) oh (.agg #[d]) "AssignableTo").run R e=.ok (294,.agg #[d]) e/\∀a,(Go.method (Tryz.prog.types.size+Made.depth) oh (.agg #[d]) "AssignableTo").events R e a=a:=⟨by kernel_rfl,λa=>by kernel_rfl⟩
def WO:iz R 294 (ReflectliteType.relation "AssignableTo" ReflectliteType.assignableTo):=⟨_,Tryz.func294,by kernel_rfl,by kernel_rfl,by kernel_rfl,by kernel_rfl⟩
def TP(a:af):(ReflectliteType.relation "AssignableTo" ReflectliteType.assignableTo #[.agg #[aG dH],lz dH]).run R a=.ok (.bool i) a:=bO
def NO(d:af)(a:Array ay):(ReflectliteType.relation "AssignableTo" ReflectliteType.assignableTo #[.agg #[aG dH],lz dH]).events R d a=a:=bO
def WW:iz R 128 ReflectliteType.typeOf:=⟨_,Tryz.func128,by kernel_rfl,by kernel_rfl,by kernel_rfl,by kernel_rfl⟩
def TY(d:I)(a:af):(ReflectliteType.typeOf #[.iface dH d]).run R a=.ok (lz dH) a:=bO
def NW(d:I)(e:af)(a:Array ay):(ReflectliteType.typeOf #[.iface dH d]).events R e a=a:=bO
def WQ:iz R 129 (ReflectliteValue.method (ReflectliteValue.valueError "reflectlite.Value.Elem" 0) ReflectliteValue.elem):=⟨_,Tryz.func129,by kernel_rfl,by kernel_rfl,by kernel_rfl,by kernel_rfl⟩
def Hw(d:af):(Rtype.elem? fB).run R d=.ok (b dH) d/\∀a,(Rtype.elem? fB).events R d a=a:=⟨by kernel_rfl,λa=>by kernel_rfl⟩
def Hx(d:Addr)(e:af):(ReflectliteValue.mk dH d ReflectliteValue.flagAddr).run R e=.ok (.agg #[aG dH,.pointer (b d),.int .u64 406]) e/\∀a,(ReflectliteValue.mk dH d ReflectliteValue.flagAddr).events R e a=a:=⟨by kernel_rfl,λa=>by kernel_rfl⟩
def TR(d:Nat)(l:Addr)(e:af)(h:e.cell? ⟨d,0,k⟩=b (.pointer (b l))):(ReflectliteValue.method (ReflectliteValue.valueError "reflectlite.Value.Elem" 0) ReflectliteValue.elem #[jy fB d 150]).run R e=.ok (.agg #[aG dH,.pointer (b l),.int .u64 406]) e /\
  ∀a,∀f∈(ReflectliteValue.method (ReflectliteValue.valueError "reflectlite.Value.Elem" 0) ReflectliteValue.elem #[jy fB d 150]).events R e a,f∈a∨f=⟨.cell ⟨d,0,k⟩,m,m⟩:=by
 have j:=Tryz.underlying55;rw[HF];constructor
 .simp only[cn,(rS d e).1,cM];simp[ReflectliteValue.elem,loadVar,isAgg,underlying,j,h,Hw,Hx]
 intro a f g;simp only[aE,cn,(rS d e).1,(rS d e).2,cM,aH]at g;simpa[ReflectliteValue.elem,loadVar,isAgg,underlying,j,h,Hw,Hx,show(Mode.plain==Mode.atomic)=m from rfl]using g
def WT:iz R 130 ReflectliteValue.set:=⟨_,Tryz.func130,by kernel_rfl,by kernel_rfl,by kernel_rfl,by kernel_rfl⟩
def T6(d e:I):ReflectliteValue.set #[d,e]=(do
  let (b (u,a,Rn),b (src,j,_)):=(<-ReflectliteValue.parts d,<-ReflectliteValue.parts e)
   |unsupported (.noEntry "extern/(internal/reflectlite.Value).Set.zeroValue")
  if Rn / ReflectliteValue.flagAddr % 2==0 then unsupported (.noEntry "extern/(internal/reflectlite.Value).Set.unaddressable")
  let val<-loadVar src j
  if<-Rtype.directlyAssignable u src then storeVar u a val
  else if<-Rtype.implements u src then
   if(<-Rtype.kind src)==20 then
    match val with
    |.nilIface=>unsupported (.noEntry "extern/reflectlite: a nil value of one interface type handed on as a value of another")
    |_=>storeVar u a val
   else storeVar u a (.iface src val)
  else panicString ("reflectlite.Set: value of type "++(<-Rtype.spelt src)++ " is not assignable to type "++(<-Rtype.spelt u))
  pure (.tuple #[])):=rfl
def Ba(d:Addr)(e:af):(ReflectliteValue.parts (.agg #[aG dH,.pointer (b d),.int .u64 406])).run R e=.ok (b (dH,d,406)) e/\∀a,(ReflectliteValue.parts (.agg #[aG dH,.pointer (b d),.int .u64 406])).events R e a=a:=⟨by kernel_rfl,λa=>by kernel_rfl⟩
def Bb(d:Nat)(e:af):(ReflectliteValue.parts (jy dH d 150)).run R e=.ok (b (dH,⟨d,0,k⟩,150)) e/\∀a,(ReflectliteValue.parts (jy dH d 150)).events R e a=a:=⟨by kernel_rfl,λa=>by kernel_rfl⟩
def Hv(d:af):(Rtype.directlyAssignable dH dH).run R d=.ok i d/\∀a,(Rtype.directlyAssignable dH dH).events R d a=a:=⟨by kernel_rfl,λa=>by kernel_rfl⟩
def Hy(d:af):(sizeOf dH).run R d=.ok 1 d/\∀a,(sizeOf dH).events R d a=a:=⟨by kernel_rfl,λa=>by kernel_rfl⟩
def TW(e g:Nat)(n:ab)(j:I)(h:Addr)(d:af)(t:d.heap[e]?=b (.cells #[j] n (0,0)))(s:d.cell? ⟨g,0,k⟩=b (.pointer (b h))):
  (ReflectliteValue.set #[.agg #[aG dH,.pointer (b ⟨e,0,k⟩),.int .u64 406],jy dH g 150]).run R d=.ok (.tuple #[]) (d.setRow e #[.pointer (b h)]) /\
  ∀f,∀l∈(ReflectliteValue.set #[.agg #[aG dH,.pointer (b ⟨e,0,k⟩),.int .u64 406],jy dH g 150]).events R d f,l∈f∨l=⟨.cell ⟨g,0,k⟩,m,m⟩∨l=⟨.cell ⟨e,0,k⟩,i,m⟩:=by
 have r:=Tryz.underlying53;have p:∀d∈[Value.pointer (b h)],d.oneCell'=i:=λd x=>by simp at x;exact bH
 have w:=run_storeCells_at R e 0 n [.pointer (b h)] 0 #[j] d t Q p;have o:(storeCells ⟨e,0,k⟩ [.pointer (b h)] 0).run R d=.ok () (d.setRow e #[.pointer (b h)]):=w;rw[T6];constructor
 .simp only[cn,(Ba ⟨e,0,k⟩ d).1,(Bb g d).1,cM];simp[ReflectliteValue.flagAddr,loadVar,isAgg,underlying,r,s,Hv,storeVar,Value.cells,Hy,o]
 intro f l q;simp only[aE,cn,(Ba ⟨e,0,k⟩ d).1,(Ba ⟨e,0,k⟩ d).2,(Bb g d).1,(Bb g d).2,cM,aH]at q;have u:l∈(storeCells ⟨e,0,k⟩ [.pointer (b h)] 0).events R d (f.push ⟨.cell ⟨g,0,k⟩,m,m⟩):=by simpa[ReflectliteValue.flagAddr,loadVar,isAgg,underlying,r,s,Hv,storeVar,Value.cells,Hy,o,show(Mode.plain==Mode.atomic)=m from a]using q
 rcases li [.pointer (b h)] 0 #[j] d _ t Q p l u with y|⟨v,A,z,rfl⟩
 .grind
 obtain rfl:v=0:=J;exact .inr (.inr a)
end
section
open Go.Proofs Go.Extern
variable {q:al R}
abbrev x2:Y:=.Q (dY 0 124 (lz 50))
abbrev mU(a:I):s:=aL (.val a)
abbrev vJ(e:ab)(d:Nat)(a:Int):s:=.k (.agg [.c (.val (aG e)),.c (.val (.pointer (b ⟨d,0,k⟩))),.c (.val (.int .u64 a))])
abbrev C0(f:Addr)(a d:Nat):e Y:=[.Q (dY d fB (.pointer (b ⟨a,0,k⟩))),.Q (dY a dH (.pointer k))]
def Fs:∀a,a<2->([0,1]:e Nat)[a]?=b a:=cz
def Oe(e:Addr)(d h:Nat):ad q 72 [mU (.iface dH (.pointer (b e))),mU (.iface fB (.pointer (b ⟨d,0,k⟩))),vJ fB h 150,mU (lz dH)] (C0 e d h) (bm i) [.Q (dY h fB (.pointer (b ⟨d,0,k⟩))),.Q (dY d dH (.pointer (b e)))]:=by refine ad.E Tryz.func72 rfl λp=>?_;refine a8 a M ?_;refine g.db 3 [0,1,3,6] (λ_:Unit=>True) (λ_=>[]) (λ_=>C0 e d h++[.cells 121 [.c (.val (aG fB)),.c (.val (.pointer (b ⟨h,0,k⟩))),.c (.val (.int .u64 150))]]) (λ_=>0) () a Q a Q a M λ_ _=>?_;refine a8 a M ?_;refine g.cu a a (d_.dO (hd.dM a a) WW (TY _) (NW _) (A:=mU (lz dH)) λ_=>Rd.val a) λ_=>?_;refine a8 a M ?_;refine g.cu a a (d_.dO (hd.invoke a a a (SA _)) WO TP NO (A:=bm i) λ_=>Rd.bool) λ_=>?_;refine a_ [19] a Q ?_;refine g.cu a a (d_.gM 0 (bk:=.pointer (b ⟨d,0,k⟩)) a (hd.dM a a) WQ (λj l=>TR h ⟨d,0,k⟩ j l) (A:=vJ dH d 406) λ_=>⟨_,a,Rd.val a,Rd.val a,Rd.val a,M⟩) λ_=>?_;refine a8 a M ?_;refine g.cu a a (d_.gK (T:=dH) (bk:=.pointer (b e)) (ai:=λf=>jy dH f 150) (A:=λf=>vJ dH f 150) (hd.dM a a) I0 (TZ e) (NX e) λf _ _=>⟨_,a,Rd.val a,Rd.val a,Rd.val a,M⟩) λf=>?_;refine a8 a M ?_;refine g.cu a a (d_.iC 1 3 (BT:=.pointer k) (bk:=.pointer (b e)) a a (hd.dM a a) WT (λj o n=>TW d f dH _ e j o n) (A:=.C []) λ_ _=>⟨[],a,M⟩) λ_=>?_;refine a8 a M (g.aV (b3.mk [0,1] a ?_ a a a Fs));simp
def IV{g:ab}{e f:Z}(n:r.op=.binOp op w e f ty){s:Bool}{x:Array (String×ab)}(U:P.underlying w=b (.interface x))(z:η e=aL (.val (.iface g ai)))(y:η f=aL .bk)(t:∀K,(eqGuard op w e f (.iface g ai) .nilIface).run P K=.ok () K)(ac:∀K a,(eqGuard op w e f (.iface g ai) .nilIface).events P K a=a)(l:hn op m=b s):aR P r η h (aL (.bool s)) h:=by
 refine .aS λd u C v=>?_;have q:=v e;have p:=v f;rw[z]at q;rw[y]at p;replace q:=b2 q;replace p:=b2 p;generalize j:u e=A at q;generalize N:u f=B at p;cases q;cases p;have o:(Op.equal w (.iface g ai) .nilIface).run P d.a=.ok m d.a:=Ls;have X:∀a,(Op.equal w (.iface g ai) .nilIface).events P d.a a=a:=λa=>by show(aM (9999+1) w _ _).events P d.a a=a;unfold aM;simp[underlying,U]
 cases op<;>simp only[hn,reduceCtorEq,eA]at l
 .exact K6
 exact KG
def Od(h:Addr)(d:Nat):ad q 23 [mU (.iface dH (.pointer (b h))),mU (.iface fB (.pointer (b ⟨d,0,k⟩)))] [x2,.Q (dY d dH (.pointer k))] (bm i) [x2,.Q (dY d dH (.pointer (b h)))]:=by refine ad.E Tryz.func23 rfl λn=>?_;refine a8 a M ?_;refine g.aI (IV a Tryz.underlying50 a a bN (λ_ _=>rfl) a) a a ?_;refine a_ [-9] a Q ?_;refine g.aI (IV a Tryz.underlying20 a a bN (λ_ _=>rfl) a) a a ?_;refine a_ [-11] a Q ?_;refine g.cu a a (d_.gK (T:=fB) (bk:=.pointer (b ⟨d,0,k⟩)) (ai:=λf=>jy fB f 150) (A:=λf=>vJ fB f 150) (hd.dM a a) I0 (T0 _) (NY _) λf _ _=>⟨_,a,Rd.val a,Rd.val a,Rd.val a,M⟩) λe=>?_;refine a8 a M ?_;refine g.cu a a (d_.dO (hd.dM a a) WV (TX e) (NV e) (A:=mU (lz fB)) λ_=>Rd.val a) λ_=>?_;refine a8 a M ?_;refine g.cu a a (d_.dO (hd.invoke a a a (Gt _)) IZ TV NT (A:=aL (.int .u8 22)) λ_=>Rd.int kU) λ_=>?_;refine a_ [-20] a Q ?_;refine g.cu a a (d_.gM 2 (bk:=.pointer (b ⟨d,0,k⟩)) a (hd.dM a a) WS (λl j=>TT e ⟨d,0,k⟩ l j) (A:=bm m) λ_=>Rd.bool) λ_=>?_;refine a_ [-23] a Q ?_;refine g.cu a a (d_.dO (hd.invoke a a a (SB _)) WP TQ NP (A:=mU (lz dH)) λ_=>Rd.val a) λ_=>?_;refine a8 a M ?_;refine g.cu a a (d_.dO (hd.invoke a a a (Gt _)) IZ TU NS (A:=aL (.int .u8 22)) λ_=>Rd.int kU) λ_=>?_;refine a_ [30] a Q ?_;refine g.S (a0.gb bv 0 a a a a a a) a ?_;refine g.cu a a (d_.dO (hd.invoke a a a (SC _)) WR TS NR (A:=bm i) λ_=>Rd.bool) λ_=>?_;refine a_ [-35] a Q ?_;refine g.aF (Oe h d e) [2,1] a ?_;refine a8 a M (g.aQ [0,1] a ?_ Fs);simp
end
end R1
abbrev xp(a d:an)(e:Bool):s:=.C [.S (.c (.R a)),.S (.c (.R d)),.S (.c (.bool e))]
namespace R1
variable {q:al R}
def Pm(d:an)(a:Int)(f:0<=a/\a<=255):ad q 199 [bC d,ti a] [] (S (Lib.indexByte d (UInt8.ofNat (Int.toNat a)))) []:=by
 have e:a=((UInt8.ofNat a.toNat).toNat:Int):=by grind[UInt8.toNat_ofNat']
 grind[Pl]
def yH:bB:=λargs d=>match args,d with
 |[.k (.S (.c (.R e))),.k (.S (.c (.int .u8 a)))],[]=>b (S (Lib.indexByte e (UInt8.ofNat (Int.toNat a))),[],[0<=a/\a<=255])
 |_,_=>k
def Vh:bI q 199 yH:=by
 intro args j f g e a d;unfold yH at a;split at a
 .cases a;exact(Pm _ _ (d)).args (λ_ _ h=>h)
 cases a
def Ei:e (Nat×bB):=(199,yH)::Ey
def zi:a3 q Ei:=a3.cons Vh (Nq)
def hE(a:an):Int:=Lib.indexByte a 47
theorem Pk(d:an):ad q 159 [bC d,bC [47]] [] (S (hE d)) []:=by
 refine ad.E func159 rfl λf=>?_;by_cases e:d=[47]
 .subst e;refine a4 zi [-18,22] a Q (g.an a ?_);exact cF
 refine a4 zi [-18,-22,26] a ?_ (g.an a ?_)
 .simp[ja,c9];grind
 exact cF
def yF:bB:=λargs a=>match args,a with
 |[.k (.S (.c (.R d))),.k (.S (.c (.R [47])))],[]=>b (S (hE d),[],[])
 |_,_=>k
def Ve:bI q 159 yF:=by intro args h d e a f g;unfold yF at f;grind[Pk]
def Ej:e (Nat×bB):=(159,yF)::Ei
def zj:a3 q Ej:=a3.cons Ve (zi)
def ih(a:an):an:=if 0<=hE a then a.take (hE a).toNat else a
def lc(a:an):an:=if 0<=hE a then a.drop ((hE a).toNat+1)else[]
def ii(a:an):Bool:=decide (0<=hE a)
theorem OD(d:an):ad q 133 [bC d,bC [47]] [] (xp (ih d) (lc d) (ii d)) []:=by
 refine ad.E func133 rfl λh=>?_;have j:=h.R 0 a;have f:=wh d 47;change hE d<c d∨hE d=-1 at f;by_cases e:0<=hE d
 .have u:(hE d+1).toNat=(hE d).toNat+1:=x;refine a4 zj [12] a ?_ (g.an a ?_)
  .simp[e,a9];omega
  simp[ih,lc,ii,e,lb,u]
 refine a4 zj [-12] a cb (g.an a ?_);simp[ih,lc,ii,e]
def yD:bB:=λargs d=>match args,d with
 |[.k (.S (.c (.R a))),.k (.S (.c (.R [47])))],[]=>b (xp (ih a) (lc a) (ii a),[],[])
 |_,_=>k
def Va:bI q 133 yD:=by intro args h d e a f g;unfold yD at f;grind[OD]
def Ek:e (Nat×bB):=(133,yD)::Ej
def Ed:a3 q Ek:=a3.cons Va (zj)
theorem OC(d:an):ad q 77 [bC d,bC [47]] [] (xp (ih d) (lc d) (ii d)) []:=by refine ad.E func77 rfl λe=>?_;exact cu Ed a M (g.an a)
def yT:bB:=λargs d=>match args,d with
 |[.k (.S (.c (.R a))),.k (.S (.c (.R [47])))],[]=>b (xp (ih a) (lc a) (ii a),[],[])
 |_,_=>k
def t77:bI q 77 yT:=by intro args h d e a f g;unfold yT at f;grind[OC]
def iP(a:an):Bool:=decide (c a=1)&&decide (97<=c9 a 0)&&decide (c9 a 0<=101)
theorem OW(d:an):ad q 78 [bC d] [] (bm (iP d)) []:=by
 refine ad.E func78 rfl λf=>?_;by_cases e:c d=1
 .by_cases j:97<=c9 d 0
  .refine a_ [5,9] a g3 (g.an a ?_);show decide (c9 d 0<=101)=iP d;simp[iP,e,j]
  refine a_ [5,-9] a cF (g.an a ?_);simp[iP,j]
 refine a_ [-5] a cb (g.an a ?_);simp[iP,e]
def yU:bB:=λargs a=>match args,a with
 |[.k (.S (.c (.R d)))],[]=>b (bm (iP d),[],[])
 |_,_=>k
def t78:bI q 78 yU:=by intro args h d e a f g;unfold yU at f;grind[OW]
def El:e (Nat×bB):=(77,yT)::(78,yU)::Ek
def q4:a3 q El:=a3.cons t77 (a3.cons t78 (Ed))
def iX(a:an):Bool:=iP (ih a)&&(!ii a||iP (lc a))
theorem Qq(d:an):ad q 28 [bC d] [] (bm (iX d)) []:=by
 refine ad.E func28 rfl λf=>?_;cases t:iP (ih d)with
 |false=>
  refine a4 q4 [-13] a mx (g.an a ?_);simp[iX,t]
 |true=>
  cases e:ii d with
  |false=>
   refine a4 q4 [13,-15] a dX (g.an a ?_);simp[iX,t,e]
  |true=>
   refine a4 q4 [13,15] a dX (g.an a ?_);simp[iX,t,e]
def yL:bB:=λargs a=>match args,a with
 |[.k (.S (.c (.R d)))],[]=>b (bm (iX d),[],[])
 |_,_=>k
def t28:bI q 28 yL:=by intro args h d e a f g;unfold yL at f;grind[Qq]
theorem PP(e:an):ad q 79 [bC e] [] (bm (dP e)) []:=by
 refine ad.E func79 rfl λf=>?_;have p:=f.R 0 a;refine a8 a M (g.b1 (λd=>d<=c e/\∀y,y<d->iq (e.getD y 0)=i) (λd:Nat=>[(0,bC e),(5,S (c e)),(6,S d)]) (λ_=>[]) (λd=>c e-d) 0 a Q a M ⟨by omega,by omega⟩ ?_);rintro d ⟨h,u⟩;by_cases n:d<c e
 .generalize t:e.getD d 0=j;by_cases o:j.toNat<97
  .refine a_ [7,12] a ?_ (g.bD (b3.zero a ?_))
   .simp only[V,vp,bM,t];omega
   exact xH
  by_cases l:j.toNat>122
  .refine a_ [7,-12,17] a Ko (g.bD (b3.zero a ?_));exact xH
  refine a_ [7,-12,-17] a Lb (g.bI (d+1) a Q a M ?_ ?_)
  .refine⟨by omega,λy N=>?_⟩;rcases yc.1 N with N|rfl
   .grind
   rw[t];simp only[iq,ct,bM];omega
  omega
 exact Jv
def yV:bB:=λargs a=>match args,a with
 |[.k (.S (.c (.R d)))],[]=>b (bm (dP d),[],[])
 |_,_=>k
def Vl:bI q 79 yV:=by intro args h d e a f g;unfold yV at f;grind[PP]
def Em:e (Nat×bB):=(28,yL)::(79,yV)::El
def zk:a3 q Em:=a3.cons t28 (a3.cons Vl (q4))
theorem Fc(d:an):ad q 29 [bC d] [] (bm (fa d)) []:=by
 refine ad.E func29 rfl λf=>?_;by_cases e:c d<=40
 .refine a4 zk [5] a cb (g.an a ?_);simp[fa,e]
 refine a4 zk [-5] a cb (g.an a ?_);simp[fa,e]
def vr:bB:=λargs a=>match args,a with
 |[.k (.S (.c (.R d)))],[]=>b (bm (fa d),[],[])
 |_,_=>k
def Im:bI q 29 vr:=by intro args h d e a f g;unfold vr at f;grind[Fc]
def m1(d a:an):Bool:=decide (c a<=c d)&&(d.take (c a)==a)
theorem O8(e d:an):ad q 114 [bC e,bC d] [] (bm (m1 e d)) []:=by
 refine ad.E func114 rfl λf=>?_;by_cases t:c d<=c e
 .refine a_ [9] a mx (g.an a ?_);simp[m1,t,lb]
 refine a_ [-9] a cb (g.an a ?_);simp[m1,t]
def yC:bB:=λargs a=>match args,a with
 |[.k (.S (.c (.R d))),.k (.S (.c (.R e)))],[]=>b (bm (m1 d e),[],[])
 |_,_=>k
def U':bI q 114 yC:=by intro args h d e a f g;unfold yC at f;grind[O8]
def En:e (Nat×bB):=(29,vr)::(114,yC)::Em
def Ee:a3 q En:=a3.cons Im (a3.cons U' (zk))
theorem O7(e d:an):ad q 61 [bC e,bC d] [] (bm (m1 e d)) []:=by refine ad.E func61 rfl λf=>?_;exact cu Ee a M (g.an a)
def yS:bB:=λargs a=>match args,a with
 |[.k (.S (.c (.R d))),.k (.S (.c (.R e)))],[]=>b (bm (m1 d e),[],[])
 |_,_=>k
def t61:bI q 61 yS:=by intro args h d e a f g;unfold yS at f;grind[O7]
def eV(a:an):an:=if ii a=i then ih a else[]
def OX(d:an):ad q 80 [bC d] [] (bC (eV d)) []:=by
 refine ad.E func80 rfl λe=>?_;cases t:ii d with
 |false=>
  refine a4 q4 [-12] a mx (g.an a ?_);simp[eV,t]
 |true=>
  refine a4 q4 [12] a mx (g.an a ?_);simp[eV,t]
def yW:bB:=λargs a=>match args,a with
 |[.k (.S (.c (.R d)))],[]=>b (bC (eV d),[],[])
 |_,_=>k
def Vm:bI q 80 yW:=by
 intro args j f g e a d;unfold yW at a;split at a
 .cases a;have _:=d;exact(OX _ ).args (λ_ _ h=>h)
 cases a
def Eo:e (Nat×bB):=(61,yS)::(80,yW)::En
def ie:a3 q Eo:=a3.cons t61 (a3.cons Vm (Ee))
end R1
def dO.jj(g:dO α)(d:e α)(a f:Nat)(o:a+f<=c d):g.ao f (gR a (g.fn d))=(d.drop a).take f:=by
 apply pD
 .simp[dO.ao];omega
 intro h j l;have n:h<f:=J;simp[dO.ao,gR,dO.fn,hH,av,bu (by omega:a+h<c d),g.inv]
def dO.iG(a:dO α)(f:e α){d:Nat}:a.bV p (gR d (a.fn f)):=λg _=>by simp[gR,dO.fn,hH,a.inv]
abbrev NC(a d:an):s:=aL (.U [.R a,.R d])
namespace R1
variable {q:al R}
def under(a d:an):Bool:=m1 a (d++[47])
def Q_(d:a')(e f:an)(j:c d.1<=4000000):ad q 60 [vH d,NC e f] [] (bm (under e d.1)) []:=by refine ad.E func60 rfl λh=>?_;refine cu ie a cb (g.an a ?_);exact cF
def yR:bB:=λargs f=>match args,f with
 |[.k (.agg [.c (.R a),.c (.R d)]),.k (.S (.c (.U [.R g,.R e])))],[]=>b (bm (under g a),[],[c a<=4000000/\d=d/\e=e])
 |_,_=>k
def t60:bI q 60 yR:=by
 intro args o f g e a d;unfold yR at a;split at a
 .rename_i j h l n;cases a;exact Q_ (j,h) l n d.1
 grind
def Ep:e (Nat×bB):=(60,yR)::Eo
def q5:a3 q Ep:=a3.cons t60 (ie)
abbrev zt(a d:an):s:=aL (.fn (.func 60) [] [.U [.R a,.R d]])
def lo(g:e a')(f:an):Int:=match g.findIdx? (λa=>under f a.1)with|some d=>d|none=>-1
def R8{a:e a'}{d:an}(j:f<c a)(n:under d (b1 a f)=i)(l:∀g,g<f->under d (b1 a g)=m):lo a d=f:=by
 have:a.findIdx? (λh=>under d h.1)=b f:=by grind[List.findIdx?_eq_some_iff_getElem,ji]
 rw[lo,this]
theorem F1{a:e a'}{d:an}(h:∀f,f<c a->under d (b1 a f)=m):lo a d=-1:=by
 have:a.findIdx? (λg=>under d g.1)=k:=by grind[List.getElem_of_mem,ji]
 rw[lo,this]
def Pg(f:e a')(l p:an)(s:∀h,h<c f->c (b1 f h)<=4000000):ad q 113 [bf.M f,zt l p] [] (S (lo f l)) []:=by
 refine ad.E func113 rfl λr=>?_;have u:=r.M 0 a;refine cu q5 a M (g.b1 (λd=>d<=c f/\∀h,h<d->under l (b1 f h)=m) (λd:Nat=>[(0,bf.M f),(1,zt l p),(7,S (c f)),(8,S d)]) (λ_=>[]) (λd=>c f-d) 0 a Q a M ⟨by omega,by omega⟩ ?_);rintro d ⟨t,o⟩;by_cases n:d<c f
 .have v:=s d n;cases j:under l (b1 f d)with
  |true=>
   refine a4 q5 [9,16] a ?_ (g.bD (b3.zero a ?_))
   .simp[-av,n,iY,j];omega
   simp[R8 n j o]
  |false=>
   refine a4 q5 [9,-16] a J_ (g.bI (d+1) a Q a M J ?_);omega
 refine a4 q5 [-9] a cb (g.a_ a a ?_);refine cu q5 a M (g.an a ?_);simp[F1 (λh w=>o h x)]
def xf(d:e a'):Prop:=∀a,a<c d->c (b1 d a)<=4000000
def yB:bB:=λargs f=>match args,f with
 |[g,.k (.S (.c (.fn (.func 60) [] [.U [.R h,.R e]])))],[]=>match i0 2 g with
  |none=>k
  |some (d,a)=>b (S (lo (bf.ao d a) h),[],[bf.bV d a,xf (bf.ao d a),e=e])
 |_,_=>k
def t113:bI q 113 yB:=by
 intro args p h j g a d;unfold yB at a;split at a
 .rename_i r n o;split at a
  .cases a
  rename_i s l e;cases a;exact(Pg _ n o d.2.1).args (λ_ z=>bW.imp (λ_=>bf.b8 e d.1) (bW.imp (λ_ f=>f) (λ_ f=>f)) z)
 grind
def Er:e (Nat×bB):=(113,yB)::Ep
def Ef:a3 q Er:=a3.cons t113 (q5)
def Ob(d:e a')(f j:an)(h:xf d):ad q 59 [bf.M d,zt f j] [] (bm (decide (0<=lo d f))) []:=by
 refine ad.E func59 rfl λl=>?_;refine cu Ef a ?_ (g.an a ?_)
 .simp[bf.ad,bf.aa,h]
 simp[bf.aa]
def yQ:bB:=λargs f=>match args,f with
 |[g,.k (.S (.c (.fn (.func 60) [] [.U [.R h,.R e]])))],[]=>match i0 2 g with
  |none=>k
  |some (d,a)=>b (bm (decide (0<=lo (bf.ao d a) h)),[],[bf.bV d a,xf (bf.ao d a),e=e])
 |_,_=>k
def t59:bI q 59 yQ:=by
 intro args p h j g a d;unfold yQ at a;split at a
 .rename_i r n o;split at a
  .cases a
  rename_i s l e;cases a;exact(Ob _ n o d.2.1).args (λ_ z=>bW.imp (λ_=>bf.b8 e d.1) (bW.imp (λ_ f=>f) (λ_ f=>f)) z)
 grind
def Es:e (Nat×bB):=(59,yQ)::Er
def l8:a3 q Es:=a3.cons t59 (Ef)
def lE(d:e a')(a:Nat):Bool:=
 iX (b1 d a)&&fa (ga d a)&&(a==0||!(aK (b1 d a) (b1 d (a-1))||b1 d a==b1 d (a-1)))&&(aI a).all λf=>!under (b1 d a) (b1 d f)
def pd(a:e a'):Bool:=(aI (c a)).all (lE a)&&decide (c a<=6)
def xt{a:e a'}(g:f<c a)(h:lE a f=m):pd a=m:=by
 cases d:pd a with
 |false=>rfl
 |true=>
  simp only[pd,ct]at d;grind
theorem A1{a:an}(g:iX a=i):c a<=3:=by
 simp only[iX,iP,ct,hP,bM,iG]at g;obtain⟨⟨⟨f,_⟩,_⟩,d⟩:=g;have h:=wh a 47;change hE a<c a∨hE a=-1 at h;by_cases e:0<=hE a
 .simp only[ih,e,cN,List.length_take]at f;rcases d with d|d
  .simp[ii,e]at d
  have:=d.1.1;simp only[lc,e,cN,u2]at this;omega
 simp only[ih,e,cr]at f;omega
def R9{w:e a'}{U:an}(o:f<=c w):decide (0<=lo (w.take f) U)=!(aI f).all λa=>!under U (b1 w a):=by
 have p:∀a,a<f->b1 (w.take f) a=b1 w a:=by intro a g;simp[b1,av,g]
 cases r:(aI f).all λa=>!under U (b1 w a)with
 |true=>
  grind[F1]
 |false=>
  have l:∃a,a<f/\under U (b1 w a)=i:=J;have:∃h:Nat,lo (w.take f) U=h:=by
   unfold lo;cases d:(w.take f).findIdx? (λn=>under U n.1)with
   |some h=>grind
   |none=>
    obtain⟨a,g,q⟩:=l;rw[List.findIdx?_eq_none_iff]at d;have j:a<c (w.take f):=J;have:=d _ (qI j);grind[ji]
  grind
def Fg(w:e a'):ad q 21 [bf.M w] [] (bm (pd w)) []:=by
 refine ad.E func21 rfl λB=>?_;have D:=B.M 0 a;refine cu l8 a M (g.aN 0 (λf=>f<=c w/\∀d,d<f->lE w d=i) (λf:Nat=>[(0,bf.M w),(5,bf.M w),(6,S (c w)),(7,S f)]) (λ_=>[]) (λf=>c w-f) 0 a Q a M a ⟨by omega,by omega⟩ ?_);rintro f ⟨o,v⟩;by_cases h:f<c w
 .cases N:iX (b1 w f)with
  |false=>
   refine bs l8 [8,-14] a ?_ (g.aV (b3.zero a ?_))
   .simp[-av,h,iY,N]
   simp[V,xt h (by simp[lE,N])]
  |true=>
   cases ac:fa (ga w f)with
   |false=>
    refine bs l8 [8,14,-19] a ?_ (g.aV (b3.zero a ?_))
    .simp[-av,h,iY,r_,N,ac]
    simp[V,xt h (by simp[lE,ac])]
   |true=>
    have F:xf (w.take f):=by
     intro d C;simp only[List.length_take]at C;have u:b1 (w.take f) d=b1 w d:=by simp[b1,av,(by omega:d<f)]
     rw[u];have:=v d x;simp only[lE,ct]at this;grind[A1]
    have E:bf.ao ((f:Int).toNat-0) (gR 0 (bf.fn w))=w.take f:=by rw[bf.jj w 0 _ J];simp
    cases s:(f==0||!(aK (b1 w f) (b1 w (f-1))||b1 w f==b1 w (f-1)))with
    |false=>
     have n:lE w f=m:=by simp only[lE,s];simp
     have A:f≠0:=J;have r:(aK (b1 w f) (b1 w (f-1))||b1 w f==b1 w (f-1))=i:=J;have j:a9 .i64 ((f:Int)-1):=cF;have l:((f:Int)-1).toNat=f-1:=x;refine bs l8 [8,14,19,24,34] a Kn (g.aV (b3.zero a ?_));simp[xt h n]
    |true=>
     have n:lE w f=(aI f).all λd=>!under (b1 w f) (b1 w d):=by simp only[lE,s,N,ac];simp
     apply g.b5 [(0,bf.M w),(3,S f),(5,bf.M w),(6,S (c w)),(7,S f),(4,ba 0 0)] [.cells 74 [.c (.R (b1 w f)),.c (.R (ga w f))]]
     .intro cI;by_cases A:f=0
      .refine bs l8 [8,14,19,-24,906] a ?_ (cI _ _ a ?_)
       .simp only[V,iY,r_,dB,N,ac,bM,d6];grind
       simp
      have r:(aK (b1 w f) (b1 w (f-1))||b1 w f==b1 w (f-1))=m:=J;have j:a9 .i64 ((f:Int)-1):=cF;have l:((f:Int)-1).toNat=f-1:=x;refine bs l8 [8,14,19,24,-34,906] a Kn (cI _ _ a ?_);simp
     refine g.freeze 4 0 a a a ?_;have p:=R9 (w:=w) (U:=b1 w f) (f:=f) o;have y:bf.bV ((f:Int).toNat-0) (gR 0 (bf.fn w)):=bf.iG w;cases t:(aI f).all λd=>!under (b1 w f) (b1 w d)with
     |false=>
      rw[t]at p n;refine bs l8 [41] a ?_ (g.aV (b3.zero a ?_))
      .simp only[V,cE];grind
      simp[xt h n]
     |true=>
      rw[t]at p n;refine bs l8 [-41] a ?_ (g.av (f+1) a ?_ ?_ ?_ ?_)
      .simp only[V,cE];have z:decide (0<=lo (bf.ao ((f:Int).toNat-0) (gR 0 (bf.fn w))) (b1 w f))=m:=J;exact⟨by exact cF,y,by grind,M,z,by omega,by omega⟩
      .simp
      .trivial
      .grind
      omega
 have:f=c w:=x;subst this;refine a4 l8 [-8] a Q (g.aA ?_);refine cu l8 a M (g.an a ?_);simp only[V,pd];grind
def qY:bB:=λargs e=>match args,e with
 |[f],[]=>match i0 2 f with
  |none=>k
  |some (a,d)=>b (bm (pd (bf.ao a d)),[],[bf.bV a d])
 |_,_=>k
def t21:bI q 21 qY:=by
 intro args l f g e a d;unfold qY at a;split at a
 .split at a
  .cases a
  rename_i n o h;cases a;exact(Fg _ ).args (λ_ z=>bW.imp (λ_=>bf.b8 h d) (λ_ j=>j) z)
 grind
def Eu:e (Nat×bB):=(21,qY)::Es
def Nn:a3 q Eu:=a3.cons t21 (l8)
end R1
def bW.V{h d:e Y}{g:aj}(l:∀(n:I)(j:s),bo h g n j->bo d g n j):∀{z:e I}{f:e s},bW h g z f->bW d g z f
 |[],[],_=>trivial
 |[],_::_,a=>a.elim
 |_::_,[],a=>a.elim
 |_::_,_::_,a=>⟨l _ _ a.1,bW.V l a.2⟩
def ad.ek{u:al P}{v:ar}{args a:e s}{g:e Y}{d:s}(w:ad u v args h d aO)(F:∀f z,bW h f z a->bW h f z args)(D:ip g h=b aB)(E:V aB):ad u v a g d aO:=
 ⟨w.1,λf z r j x l q=>by obtain⟨o,p,I⟩:=jm D E f j;exact w.2 f z (F f z (r.V I)) o x l λn J t y A B C=>q n J t y A B ((p.tolU j).trans C)⟩
def a0.er{l:al P}{n:s}(u:d' (ι:=Unit) l B all r F h (λ_=>n) (λ_=>aO)):a0 l B all r F h n aO:=
 λx p t g q w d o v a f j e=>u x p t g q w d o v a f j λ_=>e
namespace R1
variable {q:al R}
abbrev iv(a:e (Int×Int)):Y:=.q 163 2 (c a) (bV.fn a)
abbrev lD(a:e (Int×Int)):s:=.k (.S (.q 0 2 (c a) (bV.fn a)))
def Gs(L:e (Int×Int))(a d f:Y)(g h j _:Bool):e Y:=match j with
 |true=>[f]
 |false=>match h with
  |true=>[d]
  |false=>match g with
   |true=>[a]
   |false=>[iv L]
def zH:∀(r:cS)(f:e (Int×Int)),c f+c r.ao<=4000000->ad q 123 [aL (ev r),lD f] [iv f] (lD (f++r.ao)) [iv (f++r.ao)]
 |.nil,f,_=>by refine ad.E func123 rfl λB=>?_;refine a8 a M (g.aI (rH a underlying174 a a a) a a ?_);refine a8 a M ?_;rw[show f++cS.nil.ao=f from iJ f];exact g.aQ [0] a ⟨a,b4.same⟩ rl
 |.aq lt h l d,f,y=>by
  have E:(cS.aq lt h l d).ao=lt.ao++(h,l)::d.ao:=rfl;have I:c f+c lt.ao+(c d.ao+1)<=4000000:=J;have w:=zH lt f x;have v:=zH d (f++lt.ao++[(h,l)]) J;have N:=bV.aZ (f++lt.ao) (h,l);have fh:ad q 123 [aL (ev d),.k (.S (.q 0 2 (c (f++lt.ao)+1) (b_ (c (f++lt.ao)) (bV.fn (f++lt.ao)) λn=>([[.int .i64 h,.int .i64 l]]:e (e D)).getD n [])))] [.q 163 2 (c (f++lt.ao)+1) (b_ (c (f++lt.ao)) (bV.fn (f++lt.ao)) λn=>([[.int .i64 h,.int .i64 l]]:e (e D)).getD n [])] (lD (f++(cS.aq lt h l d).ao)) [iv (f++(cS.aq lt h l d).ao)]:=by
   rw[E,show f++(lt.ao++(h,l)::d.ao)=f++lt.ao++[(h,l)]++d.ao by simp];refine v.ek (λR z K=>?_) a (V.W.2 ⟨⟨by grind,N⟩,M⟩)
   match z,K with
   |[_,_],⟨F,A,C⟩=>exact⟨F,m6 rfl (show V [_,_]from⟨by grind,N⟩) A,C⟩
  have m3:(c (f++lt.ao)+1)*nR.bytes<=140737488355328:=by rw[show nR.bytes=16 from a,dZ];omega
  clear v N I y;generalize f++(cS.aq lt h l d).ao=p at *;generalize f++lt.ao=o at *;have t:a3 q []:=a3.nil;refine ad.E func123 rfl λB=>?_;refine a8 a M (g.aI (wY a underlying174 a a a) a a ?_);refine a_ [903] a M ?_;let O:Nat->s:=λn=>([aL (ev (.aq lt h l d)),aL (ev (.aq lt h l d)),aL (.U [ev d]),aL (ev d),aL (ev (.aq lt h l d)),aL (ev (.aq lt h l d)),aL (.U [ev lt,ev d]),aL (ev lt),lD f,lD o,aL (ev (.aq lt h l d)),aL (ev (.aq lt h l d)),aL (ev (.aq lt h l d)),nK h l,aL (.M i 2 1 λn=>([[.int .i64 h,.int .i64 l]]:e (e D)).getD n []),.k (.S (.q 0 2 (c o+1) (b_ (c o) (bV.fn o) λn=>([[.int .i64 h,.int .i64 l]]:e (e D)).getD n []))),lD p,lD p]:e s).getD n .any
  cases lt<;>cases d<;>(
   refine g.dP c5 O (ma (Gs f (iv o) (.q 163 2 (c o+1) (b_ (c o) (bV.fn o) λn=>([[.int .i64 h,.int .i64 l]]:e (e D)).getD n [])) (iv p)) 9 15 16 17) a a a a ⟨
   .a',
   .a',
   .a',
   .a',
   .a',
   .a',
   .a',
   .a',
   .a',
   cW.eH a a a a a a (a0.er (d'.cp w.tocm [0] a a a a Q a a a bN a bN)),
   .a',
   .a',
   .a',
   .a',
   .a',
   cW.fP a a a a a a (h1 (bK:=[]) bv t (aO:=b _) a ⟨rfl,rfl,m3⟩),
   cW.fQ a a a a a a (a0.er (d'.cp fh.tocm [0] a a a a Q a a a bN a bN)),
   cW.fR a a a a a a (a0.x),M⟩ ?_
   intro s j;show g q _ _ _ _ _ (Gs f (iv o) _ (iv p) (s 9) (s 15) (s 16) (s 17));rw[j 9 cz,j 15 cz,j 16 cz,j 17 cz]
   exact g.aQ [0] a ⟨a,b4.same⟩ rl)
abbrev GH:s:=aL (.M i 2 0 λ_=>[])
def Gr(a d f:Y)(g h j _:Bool):e Y:=match j with
 |true=>[f]
 |false=>match h with
  |true=>[d]
  |false=>match g with
   |true=>[a]
   |false=>[]
def EU:∀(p:cS),c p.ao<=4000000->ad q 123 [aL (ev p),GH] [] (lD p.ao) [iv p.ao]
 |.nil,_=>by refine ad.E func123 rfl λB=>?_;refine a8 a M (g.aI (rH a underlying174 a a a) a a ?_);refine a8 a M (g.bH 4 163 2 a a ?_);refine g.bq [iv []] a Q ?_;exact g.aQ [0] a qu (z3 _)
 |.aq lt f h d,w=>by
  have r:(cS.aq lt f h d).ao=lt.ao++(f,h)::d.ao:=rfl;have F:c lt.ao+(c d.ao+1)<=4000000:=J;have y:=EU lt x;have v:=zH (q:=q) d (lt.ao++[(f,h)]) J;have N:=bV.aZ lt.ao (f,h);have fh:ad q 123 [aL (ev d),.k (.S (.q 0 2 (c lt.ao+1) (b_ (c lt.ao) (bV.fn lt.ao) λl=>([[.int .i64 f,.int .i64 h]]:e (e D)).getD l [])))] [.q 163 2 (c lt.ao+1) (b_ (c lt.ao) (bV.fn lt.ao) λl=>([[.int .i64 f,.int .i64 h]]:e (e D)).getD l [])] (lD (cS.aq lt f h d).ao) [iv (cS.aq lt f h d).ao]:=by
   rw[r,show lt.ao++(f,h)::d.ao=lt.ao++[(f,h)]++d.ao by simp];refine v.ek (λK z I=>?_) a (V.W.2 ⟨⟨by simp,N⟩,M⟩)
   match z,I with
   |[_,_],⟨E,A,C⟩=>exact⟨E,m6 rfl (show V [_,_]from⟨by simp,N⟩) A,C⟩
  have m3:(c lt.ao+1)*nR.bytes<=140737488355328:=by rw[show nR.bytes=16 from a];omega
  clear v N F w;clear r;generalize(cS.aq lt f h d).ao=o at *;generalize lt.ao=n at *;have t:a3 q []:=a3.nil;refine ad.E func123 rfl λB=>?_;refine a8 a M (g.aI (wY a underlying174 a a a) a a ?_);refine a_ [903] a M ?_;let O:Nat->s:=λl=>([aL (ev (.aq lt f h d)),aL (ev (.aq lt f h d)),aL (.U [ev d]),aL (ev d),aL (ev (.aq lt f h d)),aL (ev (.aq lt f h d)),aL (.U [ev lt,ev d]),aL (ev lt),GH,lD n,aL (ev (.aq lt f h d)),aL (ev (.aq lt f h d)),aL (ev (.aq lt f h d)),nK f h,aL (.M i 2 1 λl=>([[.int .i64 f,.int .i64 h]]:e (e D)).getD l []),.k (.S (.q 0 2 (c n+1) (b_ (c n) (bV.fn n) λl=>([[.int .i64 f,.int .i64 h]]:e (e D)).getD l []))),lD o,lD o]:e s).getD l .any
  cases lt<;>cases d<;>(
   refine g.dP c5 O (ma (Gr (iv n) (.q 163 2 (c n+1) (b_ (c n) (bV.fn n) λl=>([[.int .i64 f,.int .i64 h]]:e (e D)).getD l [])) (iv o)) 9 15 16 17) a a a a ⟨
   .a',
   .a',
   .a',
   .a',
   .a',
   .a',
   .a',
   .a',
   .a',
   cW.eH a a a a a a (a0.er (d'.cp y.tocm [] a a a a Q a a a bN a bN)),
   .a',
   .a',
   .a',
   .a',
   .a',
   cW.fP a a a a a a (h1 (bK:=[]) bv t (aO:=b _) a ⟨rfl,rfl,m3⟩),
   cW.fQ a a a a a a (a0.er (d'.cp fh.tocm [0] a a a a Q a a a bN a bN)),
   cW.fR a a a a a a (a0.x),M⟩ ?_
   intro s j;show g q _ _ _ _ _ (Gr (iv n) _ (iv o) (s 9) (s 15) (s 16) (s 17));rw[j 9 cz,j 15 cz,j 16 cz,j 17 cz]
   exact g.aQ [0] a ⟨a,b4.same⟩ (z3 _))
end R1
section
open Go.Conc
def aZ.gC(j:aZ h d){bR:Y}{L:Loc}(ao:h[l]?=b bR)(B:d.m[l]?=b L)(z:(∃T aY,bR=.cells T aY)∨∃H,bR=.Q H):
  aZ (h.set l .t) {d with m:=d.m.set l ⟨L.v,[]⟩}/\cA h d (h.set l .t) {d with m:=d.m.set l ⟨L.v,[]⟩}:=by
 have C:l<c h:=(cD.1 ao).1;have M:l<c d.m:=(cD.1 B).1;have A:∀n,(d.m.set l ⟨L.v,[]⟩)[n]?=if l=n then b ⟨L.v,[]⟩else d.m[n]?:=J;have y:∀f∈d.m.set l ⟨L.v,[]⟩,∀o∈f.V,f∈d.m:=J;have v:cA h d (h.set l .t) {d with m:=d.m.set l ⟨L.v,[]⟩}:=by
  refine⟨bE _,λ_ _ _=>rfl,λ_ _ _ D=>D,λ_ _ _ _=>rfl,λf e o p=>.inr ⟨f,y f e o p,p⟩,?_,a,a,a,a⟩;intro n r f g e;by_cases u:l=n
  .subst u;rw[ao]at g;cases g;rw[B]at e;cases e;refine⟨.t,⟨L.v,[]⟩,by grind,by grind,?_⟩;rcases z with⟨T,aY,rfl⟩|⟨H,rfl⟩<;>rfl
  exact⟨r,f,by grind,by grind,.refl _ _⟩
 refine⟨⟨j.mem,by simp[j.len],?_,?_,λf e o p=>j.lt f (y f e o p) o p,λo p=>⟨(j.own o p).1,λf e q=>(j.own o p).2 f (y f e o q) q⟩⟩,v⟩
 .intro n r f g e;by_cases u:l=n
  .subst u;rw[hN C]at g;cases g;trivial
  rw[j7 u]at g;rw[A,bp u]at e;exact(j.box n r f g e).bU v.ext j.len λo p=>⟨a,λN=>rfl⟩
 intro I K w x s t o E F;rw[A]at s t;split at s
 .grind
 split at t
 .grind
 exact j.aL I K w x s t o E F
def bo.e9(f:au.n=d.n){a:s}(l:bo h d ai a)(j:g6 0 a=i):bo aO au ai a:=by have e:=bo.drop (a6:=[]) (bw:=h) l j;refine bo.mono (h:=[]) (d:=d.cut 0) ⟨λo q ai g=>by rw[f];exact g,λp n L ao _=>by grind⟩ (by simp[aj.cut]) e
end
section
open Go.ChangeShapes Go.WideShapes Go.ChangeAt Go.RowKit
def D5{a:Addr}(f:K.cell? (a.add p)=b ai):K.cell? ⟨a.block,a.off+p,k⟩=b ai/\(p=0->a=⟨a.block,a.off,k⟩):=by obtain⟨e,g,d⟩:=a;cases d<;>simp only[Addr.add,aJ]at*<;>grind
section
variable {H:Type}{ik:ab×I->H}{w bk:Nat}{lU:af}
def T2(I:P.underlying w=b (.slice bk))(F:P.underlying bk=b (.int .u8))(J:P.cellsOf bk=1){s:Option Addr}{n h:Nat}{y:DataW H}{B:e MemPlace}(z:DataW.Trod ik P lU 0 (λ_=>i) i w (.slice s n h) y B):
  ∃t:Nat->Int,R1.Bytes t/\n<=9223372036854775807/\bo [] (aj.bn lU) (.slice s n h) (aL (.M m 1 n (R1.j_ t))):=by
 obtain⟨M,E⟩:=z;rcases open_ints I F J E with⟨o,_⟩|⟨N,p,u,g,o,_,d,D,K,_,l,r⟩<;>simp[Value.cells]at o<;>obtain⟨rfl,rfl,rfl⟩:=o
 .exact⟨λ_=>0,λ_=>by simp,by omega,Rd.cZ⟩
 simp only[cN,maxLen]at K D;have v:∀f,0<=g.getD f 0/\g.getD f 0<=255:=λf=>by
  by_cases j:f<c g
  .have:=r _ (qI j);simp[Lit.wf,IntKind.min,IntKind.max,IntKind.signed,IntKind.bits]at this;grind
  grind
 refine⟨λf=>g.getD f 0,v,by omega,Rd.fv d x (λC=>er b ((D5 (l 0 x)).2 a)) (λ_ _=>rfl) λf j A u q=>?_⟩
 match A,q with
 |0,q=>
  cases q;exact⟨_,by simpa[aj.bn]using(D5 (l f x)).1,Rd.int (v f)⟩
abbrev Dh(a:Nat×(Nat->Int)):s:=aL (.M m 1 a.1 (R1.j_ a.2))
def Cy(a:Nat×(Nat->Int)):Prop:=R1.Bytes a.2/\a.1<=9223372036854775807
def HC{f:e mG}(B:∀h∈f,lU.heap[h.1]?=b (.cells #[h.2.2] h.2.1 (0,0)))(o:∀h∈f,∃U bk,h.2.2=.iface U bk)(q:laidOutB P=i)(K:P.readableRec w=i)(N:w<P.types.size)(A:P.underlying w=b (.slice bk))(J:P.underlying bk=b (.int .u8))(O:P.cellsOf bk=1){W:Reach}{base:Nat}:∀{l:Nat}{z:e I}{d:e (DataW H)}{r:e MemPlace},
  DataW.TrodAll ik P lU 0 (λ_=>i) i (aW l w) z d r->(∀j n,j<l->z[j]?=b n->Value.okWide P lU W base w n) ->
  ∃p:e (Nat×(Nat->Int)),(c p=l/\c d=l)/\(∀h∈p,Cy h)/\bW (ll f) (aj.cf f lU) z (p.map Dh)/\∀t,Below lU.heap.size lU t->DataW.TrodAll ik P t 0 (λu=>decide (u<lU.heap.size)) i (aW l w) z d r
 |0,z,d,r,g,_=>by obtain⟨rfl,rfl,rfl⟩:=trodAll_nil g;exact⟨[],⟨a,a⟩,by simp,M,λ_ _=>rfl⟩
 |l+1,z,d,r,g,F=>by
  obtain⟨n,z,ab,d,r,ae,rfl,rfl,rfl,⟨v,y⟩,S⟩:=trodAll_cons g;obtain⟨Y,V,E,rfl⟩:=okWide_slice A (F 0 n x rfl);obtain⟨u,Q,D,T⟩:=T2 A J O ⟨v,y⟩;obtain⟨p,k1,s,R,G⟩:=HC B o q K N A J O S λj n X g=>F (j+1) n x g;refine⟨(V,u)::p,by simp[k1],by simp only[List.forall_mem_cons];exact⟨⟨Q,D⟩,s⟩,⟨Rd.cf B o (λad j Z g=>?_) T,R⟩,λt C=>trodAll_cons_mk (Below.trod q K N ⟨v,y⟩ C (DataW.trod_lt v _ _ _ y)) (G t C)⟩
  match j,g with
  |0,g=>cases g;exact⟨_,_,a⟩
end
noncomputable def Si(P:aw)(g:e (String×DataW Unit))(f l j:Nat)(os:Os):af:=
 let a:=World.laidAll P os (g.filter λn=>n.2.handleName?.isNone)
 {a with heap:=a.heap.modify f λ
   |.cells _ d o=>.cells #[.iface l (.agg #[typeHandle P j])] d o
   |h=>h}
def Sk{D:Checked}{K nQ gP gQ h6 r7 r6:Nat}(an:∀(y x:ab×I) (R:e (Nat×(Nat->Int))),c R=p->(∀h∈R,Cy h)->ad (al.a8 D.prog) K (R.map Dh) (ll [(nQ,h6,.iface y.1 y.2),(gP,h6,.iface x.1 x.2),(gQ,r7,.iface r6 (.agg #[typeHandle D.prog h6]))]) (bm i) (ll [(nQ,h6,.iface y.1 y.2),(gP,h6,.iface x.1 x.2),(gQ,r7,.iface r6 (.agg #[typeHandle D.prog h6]))])){fn:Func}{E U Y:Nat}{d:ChangeSpec}{u:OpenClaim}{os:Os}(a':os.Started){H:Type}{ik:ab×I->H}(L:D.prog.funcs[K]?=b fn)(aV:fn.params=(aW p E).toArray)(aH:fn.resultTypes=#[Y])(ao:ownKnob D.prog.godebug=k)(S:laidOutB D.prog=i)(aJ:D.prog.readableRec E=i)(aL:E<D.prog.types.size)(ar:D.prog.underlying E=b (.slice U))(au:D.prog.underlying U=b (.int .u8))(aw:D.prog.cellsOf U=1)(aC:D.prog.underlying Y=b .bool)(aF:D.prog.inits.idxOf? K=k)(aM:varsRowed D.prog d.vars=i)(aK:∃aZ a0,d.vars=[aZ,a0])(a6:∀(J:e (DataW H)) (l j:DataW H),c J=p->d.fn H (J++[l,j])={results:=[.lit (.bool i)],args:=J,vars:=[l,j]})(BU:∃(g:af) (tape:Tape) (w:Input),g.os=os/\(g.forCall tape w).Shaped D.prog/\w.vars=[]/\Input.okWide D.prog (g.forCall tape w) .any g.heap.size K w /\
   ((d.pre ik D.prog fn u.domain m (g.forCall tape w).memory w.args/\laidMetH D.prog u.laid (g.forCall tape w).memory)/\sizedMet ik D.prog fn (OpenSpec.ofChange d) m (g.forCall tape w).memory w.args)/\({}:Assume).holds D.prog (lone (Frame.enter D.prog K w.args .normal) [] (g.forCall tape w))){FY F0 FW:Nat}{aq jW T aQ aR:String}{ak vH z:DataW Unit}{a8:Array (String×ab)}{aY:e UInt8}(aA:(u.laid.filter λh=>h.2.handleName?.isNone)[FY]?=b (aq,.iface aQ ak))(aB:(u.laid.filter λh=>h.2.handleName?.isNone)[F0]?=b (jW,.iface aR vH))(az:(u.laid.filter λh=>h.2.handleName?.isSome)[FW]?=b (T,z))(V:[aq,jW,T].map D.prog.globalNamed=[b nQ,b gP,b gQ])(Z:[nQ,gP].map (λX=>(D.prog.globals[X]?).map (·.type))=[b h6,b h6])(aT:D.prog.underlying h6=b (.interface a8))(F:[nQ,gP,gQ].map (λX=>(decide (X<D.prog.globals.size),((begin D.prog (λ_ _=>0) default).world.heap[X]?).bind Obj.row?))=[(i,b (#[.nilIface],h6)),(i,b (#[.nilIface],h6)),(i,b (#[.nilIface],r7))])(ag:z.funcsIn?=k)(ah:z.handleName?=b aY)(ai:(D.prog.cutTypes.find? (·.1== "internal/reflectlite.rtype")).map (·.2)=b r6)(aj:((aI D.prog.types.size).filter λE=>D.prog.rowNamed E aY)=[h6])(a:[nQ,gP,gQ].Nodup):
  ReturnsInLeavingWide {} D os K .any (λg args=>(d.pre ik D.prog fn u.domain m g args/\laidMetH D.prog u.laid g)/\sizedMet ik D.prog fn (OpenSpec.ofChange d) m g args) (d.post ik D.prog fn m i m m):=by
 refine T4 (q:=λg _=>laidMetH D.prog u.laid g) (λ_ _ _ aE n=>n.of_heap aE) ao a' L BU λW base args o N M v O r A=>?_;have a5:=O;obtain⟨a1,a2,aU,ae,rfl,_,_⟩:=O;simp only[oB,List.map_nil,List.cons.injEq,bl,k4,bM]at V Z F;obtain⟨y,a3⟩:=Gh A r (bZ aA) V.1 Z.1 aT F.1.1 F.1.2;obtain⟨x,s⟩:=Gh A r (bZ aB) V.2.1 Z.2 aT F.2.1.1 F.2.1.2;have P:∀h∈([(nQ,h6,.iface y.1 y.2),(gP,h6,.iface x.1 x.2),(gQ,r7,.iface r6 (.agg #[typeHandle D.prog h6]))]:e mG),W.heap[h.1]?=b (.cells #[h.2.2] h.2.1 (0,0)):=by simp only[List.forall_mem_cons];exact⟨a3,s,Sj A r (bZ az) ag ah V.2.2 ai aj F.2.2.1 F.2.2.2,by simp⟩
 have a4:∀h∈([(nQ,h6,.iface y.1 y.2),(gP,h6,.iface x.1 x.2),(gQ,r7,.iface r6 (.agg #[typeHandle D.prog h6]))]:e mG),∃a7 U,h.2.2=.iface a7 U:=Q;simp only[aV]at aU v;obtain⟨R,k1,aN,aO,aP⟩:=HC P a4 S aJ aL ar au aw aU λa_ aS aG n=>v a_ E aS (by simp[aG]) so;refine bG.iQ (an y x R k1.1 aN).tocm aF a P aO λ_ aS B t f J=>?_;have t:Rd B.n aS (.bool i):=t;cases t;have C:Below W.heap.size W (B.a.at J):=⟨f.os,f.tape,f.output,f.size,f.block⟩;obtain⟨aZ,a0,a9⟩:=aK;obtain⟨l,j,rfl⟩:∃l j,N=[l,j]:=by
  rw[a9]at ae
  match N,ae with
  |[l,j],_=>exact⟨l,j,rfl⟩
 have G:=a6 o l j k1.2;have ax:=aP _ C;have ay:DataW.TrodAll ik D.prog (B.a.at J) W.heap.size (λ_=>m) m [Y] [.bool i] [.lit (.bool i)] []:=trodAll_mk1 (shut_bool aC _);refine⟨o,[l,j],a1++a2,[],a1,a2,a5,?_,?_,?_,C.frame _,λn=>by cases n⟩
 .rw[show(d.fn H (o++[l,j])).results=_ from er _ G,aH];exact ay
 .rw[show(d.fn H (o++[l,j])).args=_ from er _ G,aV];exact ax
 rw[show(d.fn H (o++[l,j])).vars=_ from er _ G];exact Below.trodVars S C aM ae
end
namespace R1
section
variable {q:al R}
def iO(a:an):e an:=if fa a then cc a else[]
def IR(d:an)(f:Nat)(a:e an):Prop:=∃g,hG d (c d) 0=a++hG d g f/\c d<=f+g/\c a<=f
def IA:bI q 29 (df dT (λa=>bm (fa a)) λ_=>[]):=.a3 λa _=>Fc a
def Dq:bB:=λargs a=>match args,a with
 |[.k (.S (.c (.R d)))],[]=>b (aL (Dp d),[],[])
 |_,_=>k
def Vx:bI q 36 Dq:=by intro args h d e a f g;unfold Dq at f;grind[OH]
def OE(f:an):ad q 11 [bC f] [] (bD.M (iO f)) []:=by
 refine(bG.ff (ι:=Unit) (aO:=λ_=>[]) (res:=λ_=>bD.M (iO f)) func11 rfl rfl rfl λK=>?_).toad;have r:a3 q [(29,df dT (λI=>bm (fa I)) λ_=>[])]:=.cons IA .nil;refine de.seq (bX.bn (g.aW ?_));refine cu r a M (de.seq (bX.bn (g.aW ?_)));cases N:fa f with
 |false=>
  refine a4 r [8] a uz (g.ret ⟨(),b3.zero a ?_⟩);simp[iO,N]
 |true=>
  have w:=N;simp only[fa,ct,bM]at w;refine a4 r [-8] a uz (de.seq (bX.bn (g.aW ?_)));refine cu r a M (de.seq (de.seq (bX.bn (g.aW (g.cP 1 0 9 1 (bD.fn []) a a ?_)))));refine cu (.cons Vx .nil) a M (de.block ?_);refine de.rangeFunc (oJ:=fm [.U [.R f]]) (bQ.callee a) (OI (ag:=e an) f w.2 x (λ_=>.cells 9 [.c (.R f)]) (λd=>.cells 36 [.q 2 1 (c d) (bD.fn d)]) (λd=>.q 9 1 (c d) (bD.fn d)) (IR f) [] ?_ (λf=>⟨by simp,by simp,by simp⟩) ?_) (λn=>⟨a,by simp⟩) λn=>⟨.normal,a,?_⟩
  .exact⟨c f,by simp,by omega,by simp⟩
  .rintro h d t l;have z:=pY f h t;refine i7.intro (y:=k) a a a a (g.aW ?_);refine a8 a M ⟨a,a,g.aW ?_⟩;refine a8 a ?_ ?_
   .obtain⟨o,_,_,B⟩:=l;have J:=z.1;have u:=z.2.1;refine⟨a,a,?_,Int.natCast_nonneg _,Int.ofNat_le.2 (Nat.le_of_lt J),Int.ofNat_le.2 u⟩;show(c d+1)*16<=_;omega
   have E:IR f (ec f h) (d++[(f.drop h).take (ec f h-h)]):=by
    obtain⟨o,p,F,B⟩:=l;obtain⟨j,rfl⟩:∃j,o=j+1:=⟨o-1,by omega⟩
    refine⟨j,?_,by omega,by grind⟩;rw[p];simp only[hG];grind
   refine⟨a,a,⟨_,E⟩,jm a ?_⟩;have s:lb f (b (h:Int)) (b (ec f h:Int))=(f.drop h).take (ec f h-h):=Ja;have A:b4 (c d+1) (b_ (c d) (bD.fn d) λn=>[[D.R (lb f (b (h:Int)) (b (ec f h:Int)))]].getD n []) (bD.fn (d++[(f.drop h).take (ec f h-h)])):=by rw[s];exact dO.aZ bD d _
   have v:c d+1=c (d++[(f.drop h).take (ec f h-h)]):=Q;refine V.W.2 ⟨by simp,V.W.2 ⟨V.W.2 ⟨⟨v,A⟩,M⟩,V.W.2 ⟨⟨v,A⟩,V.W.2 ⟨a,M⟩⟩⟩⟩
  obtain⟨d,o,p,F,B⟩:=n;have C:hG f o (c f)=[]:=by cases o<;>simp[hG]
  rw[C,iJ]at p;have s:iO f=d:=by simp only[iO,N,cN,cc,p]
  rw[s];show de q _ _ _ _ _;refine bX.bn (g.aW ?_);refine a8 a M (g.ret ⟨(),b3.zero a ?_⟩);simp
def xm:bI q 11 (df dT (λa=>bD.M (iO a)) λ_=>[]):=.a3 λa _=>OE a
def VK:bI q 191 (eK (fQ bD) dT (λa _=>bC a.flatten) λa e=>[e=[],c a.flatten<=140737488355328]):=.bf λa e d=>by obtain⟨rfl,d⟩:=d;exact Px a d
def vv:bB:=eK (fQ bD) (fQ bD) (λa d=>bm (a==d)) λ_ _=>[]
def Vz:bI q 192 vv:=.bf λa d _=>ON a d
def OG(d:e an)(n:c d.flatten<=140737488355328):ad q 147 [bD.M d] [] (hT (ig d)) []:=by
 refine ad.E func147 rfl λl=>?_;have h:a3 q [(191,eK (fQ bD) dT (λd _=>bC d.flatten) λd f=>[f=[],c d.flatten<=140737488355328]),(29,df dT (λf=>bm (fa f)) λ_=>[]),(192,vv),(11,df dT (λf=>bD.M (iO f)) λ_=>[])]:=.cons VK (.cons IA (.cons Vz (.cons xm .nil)));have zB:bD.ao (c d) (bD.fn d)=d:=bD.aa d;cases t:fa d.flatten with
 |false=>
  refine a4 h [-8,9,16] a ?_ (g.an a ?_)
  .simp only[V,zB,t,bD.ad,eq_self,bn,bl];grind
  simp[ig,t]
 |true=>
  cases j:(cc d.flatten==d)with
  |false=>
   refine a4 h [8,-9,-14,16] a Jy (g.an a ?_);simp[ig,j]
  |true=>
   refine a4 h [8,-9,14,-16] a Jy (g.an a ?_);simp[ig,t,j,zB]
def FD{a:e (Int×Int)}(d:f<c a):a.getD f (0,0)∈a:=J
def h7(d:e (Int×Int)):cS:=d.foldl (λf a=>f.put a.1 a.2) .nil
theorem Ws(d:e (Int×Int))(a:Int×Int):h7 (d++[a])=(h7 d).put a.1 a.2:=by unfold h7;grind
def xr{l:e (Int×Int)}(a:y<c l):h7 (l.take (y+1))=(h7 (l.take y)).put (l.getD y (0,0)).1 (l.getD y (0,0)).2:=by grind[List.take_add_one,Ws]
abbrev o2(a:e (Int×Int)):s:=aL (.M m 1 1 λd=>([[.M m 2 (c a) (bV.fn a)]]:e (e D)).getD d [])
abbrev Bv(a:Int×Int):Y:=.cells 163 [.c (.int .i64 a.1),.c (.int .i64 a.2)]
def FB(a:e (Int×Int)):Nat->bd
 |0=>[(3,aL .bj),(8,o2 a),(9,S 1),(10,S 0),(14,bV.M a),(15,S (c a)),(16,S 0)]
 |d+1=>[(3,.k (.S (.aD 1))),(8,o2 a),(9,S 1),(10,S 0),(14,bV.M a),(15,S (c a)),(16,S (d+1:Nat))]
def UU(a:e (Int×Int)):Nat->e Y
 |0=>[]
 |d+1=>[Bv (a.getD 0 (0,0)),.Q (ei lr (h7 (a.take (d+1))))]
def RB(a:e (Int×Int)):Nat->bd
 |0=>[(3,aL .bj),(8,o2 a),(9,S 1),(10,S 0)]
 |d+1=>match a with
  |[]=>[(3,aL .bj),(8,o2 a),(9,S 1),(10,S (d+1:Nat))]
  |_::_=>[(3,.k (.S (.aD 1))),(8,o2 a),(9,S 1),(10,S (d+1:Nat))]
def UV(d:e (Int×Int)):Nat->e Y
 |0=>[]
 |_+1=>match d with
  |[]=>[]
  |a::f=>[Bv a,.Q (ei lr (h7 (a::f)))]
def Fe(l:e (Int×Int))(I:c l<=4000000)(B:∀d∈l,a9 .i64 d.1/\a9 .i64 d.2):ad q 118 [o2 l] [] (aL (ev (h7 l))) []:=by
 refine ad.E func118 rfl λE=>?_;refine a8 a M (g.g' 0 (λd=>d<=1) (RB l) (UV l) (λd=>1-d) 0 a Q a M a x ?_);intro d n;rcases d with _|d
 .refine a_ [11] a Q (g.g' 0 (λy=>y<=c l) (FB l) (UU l) (λy=>c l-y) 0 a Q a M a x ?_);intro y F;rcases y with _|y
  .by_cases j:0<c l
   .have n:=B _ (FD j);have f:=xr j;have h:a3 q [(149,qZ [aL .bj,nK (l.getD 0 (0,0)).1 (l.getD 0 (0,0)).2] [] (.k (.S (.aD 0))) [.Q (ei lr (.aq .nil (l.getD 0 (0,0)).1 (l.getD 0 (0,0)).2 .nil))])]:=.cons (um (vV _ _ n.1 n.2 .nil)) .nil;refine bs h [17] a Kz (g.e5 2 1 x a Q a a a ?_ a j J);exact bH
   obtain rfl:l=[]:=j5 x;refine b6 [-17] a Q (g.fh a a ?_);refine cq a kU (g.e5 0 1 x a ?_ a a a M a x cz);simp
  obtain⟨s,p,t,r,f⟩:∃v w z A,h7 (l.take (y+1))=.aq v w z A:=by rw[xr x];exact wV _ _ _
  show g q _ _ _ _ (FB l (y+1)) [Bv (l.getD 0 (0,0)),.Q (ei lr (h7 (l.take (y+1))))];by_cases j:y+1<c l
  .have n:=B _ (FD j);have C:=xr j;rw[f]at C⊢;have h:a3 q [(149,qZ [.k (.S (.aD 0)),nK (l.getD (y+1) (0,0)).1 (l.getD (y+1) (0,0)).2] [.Q (ei lr (.aq s p t r))] (.k (.S (.aD 0))) [.Q (ei lr ((cS.aq s p t r).put (l.getD (y+1) (0,0)).1 (l.getD (y+1) (0,0)).2))])]:=.cons (um (vV _ _ n.1 n.2 (.aq s p t r))) .nil;refine bs h [17] a Kz (g.e5 2 (y+2) x a Q a a a ?_ a j J);simp only[V.W,V,bn,bl];rw[C]
  have o:y+1=c l:=x;rw[o,eB]at f
  match l,o,f with
  |d::u,o,f=>
   rw[o,eB,f];refine b6 [-17] a Q (g.fh a a ?_);refine cq a kU (g.e5 2 1 x a Q a a a ?_ a x cz);exact bH
 cases l with
 |nil=>
  refine b6 [-11] a bx (g.fh a a ?_);exact cq a M (g.an a qu)
 |cons D u=>
  refine b6 [-11] a bx (g.fh a a ?_);refine cq a M (g.fY 2 1 a a ?_);obtain⟨s,p,t,r,f⟩:∃v w z A,h7 (D::u)=.aq v w z A:=by have:=xr (l:=D::u) (y:=c u) Q;rw[List.take_of_length_le Q]at this;rw[this];exact wV _ _ _
  rw[f];exact g.an a
end
section
open Go.Proofs Go.Conc Go.Conc.Lib
open Go.ConcN (WgLive PayAt Has RW AtR0)
open Go.ConcR (KK WgAt stA smA rd wr mk Payload DC0)
noncomputable def M4:Code:=mb (gj (gj (gj pV)))
noncomputable def DS:Code:=mb M4
noncomputable def yN:Code:=gj (gj (gj pV))
def M0:yN=.seq (.seq DS (.block 0 (.loop gM))) kz:=bO
section
variable {dA:e Y}{cy:aj}{F:bd}{h:e Y}{t:Act}{d:aj}{bg:ae->aj->Prop}
def dM.goes{j:Nat}{e:ae}:∀(q:Nat)(a:ae)(d:aj),dM dA cy F h t d->WgLive 254 j d.a->Goes R i (fe 254 j) DC0 (λa _=>a=e) q a d.a ->
  (∀g,dM dA cy F h t g->cf (al.a8 R) bg e g)->cf (al.a8 R) bg a d
 |0,a,d,u,_,l,r=>by obtain rfl:a=e:=l d.a (.refl _);grind
 |q+1,a,d,u,x,l,r=>by
  rcases l with l|⟨y,l⟩
  .obtain rfl:a=e:=l d.a (.refl _);grind
  refine .next y λg s=>?_;have o:=u.rely s.1;obtain⟨B,C⟩:=s.2;have v:WgLive 254 j g.a:=bH;have f:=l g.a (λ_=>v);cases p:ap R i a g.a with
  |go n A w=>
   rw[p,goes_go]at f;obtain⟨⟨rfl,rfl⟩,z⟩:=f;exact⟨n,g,#[],p,.aS o.aJ,dM.goes q n g o v z r⟩
  |_=>rw[p]at f;exact f.elim
def Mv{f:e Y}{l:aj}(j:∀h∈f,h=.t){a:e Deferred}{d:e Nat}(g:h_ f l a d):a=[]:=by
 cases a with
 |nil=>rfl
 |cons n a=>
  cases d with
  |nil=>exact g.elim
  |cons o d=>
   have:=j _ (bZ g.1.1);cases this
end
section
variable {o:Int}{aB:e bU}{bj:e Int}{D:Nat}{O:e I}
variable (o aB bj D)in
def wQ:bd:=[(2,cx.M bj),(3,ba 0 0),(4,ba 1 0),(8,ba 3 0),(9,ba 4 0)]
variable (o aB bj D O)in
def n':e Y:=[.cells 3 [.c (.int .i64 o)],.cells 23 [.c (.M m 2 (c aB) (br.fn aB))],.Q (cg 257 2 (.row D (c bj)) (c bj) O),.cells 246 [.c (.val (.slice (b ⟨D,0,k⟩) (c bj) (c bj)))],.cells 254 [.c (.int .u64 0),.c (.int .u32 0)]]
variable (o aB bj)in
def ol(a d:Nat):I:=if d=0 then .string ⟨((di o aB (bj.getD a 0)).getD []).toArray⟩else .bool (di o aB (bj.getD a 0)).isSome
variable (o aB bj)in
def l6:e I:=bj.flatMap λa=>[.string ⟨((di o aB a).getD []).toArray⟩,.bool (di o aB a).isSome]
variable (o aB bj D)in
def qi:e Y:=[.t,.t,.Q (cg 257 2 (.row D (c bj)) (c bj) (l6 o aB bj)),.t,.t]
def Td{d:al R}:bX d 45 DS (sA ((18,cx.M bj)::(19,S (c bj))::(20,S 0)::wQ bj) (n' o aB bj D O)) (wQ bj) (n' o aB bj D O):=by refine g.aW ?_;refine a8 a M ⟨a,et a ?_,a⟩;simp
theorem Fw:c (l6 o aB bj)=c bj*2:=by
 unfold l6;induction bj with
 |nil=>rfl
 |cons d e a=>grind
def z7:∀{bj:e Int}{A f:Nat},A<c bj->f<2->(l6 o aB bj)[2*A+f]?=b (ol o aB bj A f)
 |[],A,f,h,_=>by grind
 |d::g,0,f,_,a=>by
  match f,a with
  |0,_=>rfl
  |1,_=>rfl
 |d::g,A+1,f,h,a=>by have:=z7 (bj:=g) (A:=A) (f:=f) J a;unfold l6 at this⊢;rw[oy,gK J];rw[show 2*(A+1)+f - [Value.string ⟨((di o aB d).getD []).toArray⟩,Value.bool (di o aB d).isSome].length=2*A+f by grind];exact bH
def _root_.Go.AM.bQ.seen{l a:Nat}{n:s}{d:e Y}{h:aj}{j:bd}{f:Act}(g:bQ l d h j f)(q:bo d h (f.tmps.getD a E) n):bQ l d h ((a,n)::j) f:=by
 refine⟨g.size,g.defers,λo=>?_⟩;simp only[look];cases p:aa a o with
 |false=>exact g.aC o
 |true=>grind[Nat.eq_of_beq_eq_true]
abbrev tY(a d:Nat):bd:=[(8,aL (.U [.val (.slice (b ⟨d,0,k⟩) a a)]))]
variable (o aB bj D)in
abbrev G':bd:=(8,aL (.U [.val (.slice (b ⟨D,0,k⟩) (c bj) (c bj))]))::(4,aL (.U [.M m 2 (c aB) (br.fn aB)]))::(3,aL (.U [.int .i64 o]))::(18,cx.M bj)::(19,S (c bj))::(20,S 0)::[(9,ba 4 0)]
def Rx(bn:bI (al.cA R) 189 (l4 o)){aq:dn}(cl:c bj<=4000000)(ar:de (al.a8 R) 45 mS aq (tY (c bj) D) (qi o aB bj D)):de (al.a8 R) 45 yN aq (wQ bj) (n' o aB bj D O):=by
 intro Z b6 cf bs bS ay aY cQ aO X cc;have g:dM (n' o aB bj D O) Z (wQ bj) (n' o aB bj D O) b6 Z:=⟨cf,bs,.refl _ _⟩;refine g.ctl a (λbU=>xd M0) λd g=>?_
 refine g.ctl a (λbU=>n_) λd g=>?_;refine g.code aO Td λa7 d g=>?_;obtain⟨bM,w1,ba,a3,ab⟩:=bQ.freeze 3 0 (T:=3) (aY:=[.c (.int .i64 o)]) (jK:=[.int .i64 o]) rfl rfl rfl g.bE g.aJ;refine .aK (.of g.aJ a3 w1 (ab.tolU g.aJ)) ?_;obtain⟨bN,w2,bb,C,ad⟩:=bQ.freeze 4 1 (T:=23) (aY:=[.c (.M m 2 (c aB) (br.fn aB))]) (jK:=[.M m 2 (c aB) (br.fn aB)]) rfl rfl rfl ba a3;refine .aK (.of a3 C w2 (ad.tolU a3)) ?_;obtain⟨cu,w3,f3,U,ae⟩:=bQ.freeze 8 3 (T:=246) (aY:=[.c (.val (.slice (b ⟨D,0,k⟩) (c bj) (c bj)))]) (jK:=[.val (.slice (b ⟨D,0,k⟩) (c bj) (c bj))]) rfl rfl rfl bb C;refine .aK (.of C U w3 (ae.tolU C)) ?_;have g:dM (n' o aB bj D O) Z (G' o aB bj D)
   [.t,.t,.Q (cg 257 2 (.row D (c bj)) (c bj) O),.t,.cells 254 [.c (.int .u64 0),.c (.int .u32 0)]] a7 cu:=
  ⟨f3.le (et a Q),U,g.a0.trans ((ab.tolU g.aJ).trans ((ad.tolU a3).trans (ae.tolU C)))⟩
 clear ab ad ae ba bb f3 a3 C U;refine g.ctl a (λbU=>w') λd g=>?_;refine g.ctl a (λbU=>HU) λd g=>?_;have aR:=g.aJ.len;simp only[fR,gX]at aR;obtain⟨s,a2⟩:∃L,d.m[2]?=b L:=⟨_,bu x⟩
 obtain⟨aC,a5⟩:∃L,d.m[4]?=b L:=⟨_,bu x⟩
 obtain⟨cT,bf,ai,bl,cG⟩:=g.aJ.box 2 _ s rfl a2;obtain⟨cx,cM,aQ,cd⟩:=cg.lookup bf;obtain⟨aF,_,cL,_,_,_⟩:=bf;have P:D∈s.V:=(bl D).2 J;have ax:=ai D _ aQ;obtain⟨j,z,cb,cC,bD,cH⟩:=g.aJ.box 4 _ aC rfl a5;have aT:z=[.int .u64 0,.int .u32 0]:=by
  match z,bD with
  |[],aG=>exact aG.elim
  |[_],aG=>exact aG.2.elim
  |_::_::_::_,aG=>exact aG.2.2.elim
  |[cw,az],aG=>
   have r0:Rd d.n cw (.int .u64 0):=aG.1;have v:Rd d.n az (.int .u32 0):=aG.2.1;cases r0;cases v;rfl
 subst aT;have bB:D≠j:=J;have bC:a7.tmps.getD 9 E=.pointer (b ⟨j,0,k⟩):=by obtain⟨_,L,dE,aV,a0,c0⟩:=g.bE.aC 9;grind
 obtain⟨bc,cv⟩:=g.aJ.gC (l:=2) rfl a2 (.inr ⟨_,rfl⟩);have aN:(d.m.set 2 ⟨s.v,[]⟩)[4]?=b aC:=J;obtain⟨bd,t2⟩:=bc.gC (l:=4) (bR:=.cells 254 [.c (.int .u64 0),.c (.int .u32 0)]) rfl aN (.inl ⟨_,_,rfl⟩);generalize cK:({d with m:=(d.m.set 2 ⟨s.v,[]⟩).set 4 ⟨aC.v,[]⟩}:aj)=iu at bd t2;have cE:iu.m=(d.m.set 2 ⟨s.v,[]⟩).set 4 ⟨aC.v,[]⟩:=J;have aH:iu.n=d.n:=J;have F:iu.a=d.a:=J;have aK:iu.own=d.own:=J;have aE:aZ eE iu:=bd;have pa:=(cv.tolU g.aJ).trans (t2.tolU bc);have aU:iu.m[2]?=b ⟨s.v,[]⟩:=J;have bT:∀L∈iu.m,∀A∈L.V,∃l,l≠2/\l≠4/\d.m[l]?=b L:=by grind[List.mem_iff_getElem?]
 have cO:D<d.a.heap.size:=g.aJ.lt s (bZ a2) D P;have cP:j<d.a.heap.size:=g.aJ.lt aC (bZ a5) j J;have b4:mA D iu:=⟨by rw[aK];exactλW=>(g.aJ.own D W).2 s (bZ a2) P,λL e h=>by obtain⟨l,bK,bL,V⟩:=bT L e D h;exact bK (g.aJ.aL l 2 L s V a2 D h P),λr=>by rw[aH];grind,by grind⟩
 have H:mA j iu:=⟨by rw[aK];exactλW=>(g.aJ.own j W).2 aC (bZ a5) J,λL e h=>by obtain⟨l,bK,bL,V⟩:=bT L e j h;exact bL (g.aJ.aL l 4 L aC V a5 j h J),λr=>by rw[aH];grind,by grind⟩
 have cU:bQ 45 eE iu (hp o aB bj D j 0) a7:=by have q:=g.bE.mono pa g.aJ.len;have cq:bQ 45 eE iu ((9,ce (.pointer (b ⟨j,0,k⟩)))::G' o aB bj D) a7:=q.seen (by rw[bC];exact Rd.val a);exact cq.le (et a Q)
 have cS:(O++cx).toArray.size=2*c bj:=J;have aP:∀A,(d.own A∨∃L∈d.m,A∈L.V)->A<d.a.heap.size:=λA h=>h.elim (λq=>(g.aJ.own A q).1) λ⟨L,e,q⟩=>g.aJ.lt L e A q;refine .cQ (ag:=λaf au=>∃t bJ,dM (n' o aB bj D O) Z (tY (c bj) D) (qi o aB bj D) t au/\WgLive 254 j au.a/\Goes R i (fe 254 j) DC0 (λcF _=>cF=G (bS.i (t.put (b 28) (.tuple #[])) (.inRegion nc []::.code mS::ay)) aY) bJ af au.a)
  (j1.fX (p:=c bj) (ty:=254) (val:=ol o aB bj) (B:=2*c bj) (cy:=iu) 2 x j D x bB (.of g.aJ aE F pa) a ⟨s,bZ a2,P⟩ ⟨aC,bZ a5,by grind⟩ aP ?_ cC ⟨_,ax,cS⟩ ?_) ?_
 .rintro A (rfl|rfl)
  .exact⟨b4.own,b4.m,b4.n⟩
  exact⟨H.own,H.m,H.n⟩
 .intro n bh bg bk;subst bh bg;refine⟨CG o aB bj n eE iu bS ay aY,uK o aB bj n eE iu bS ay aY,λcF d h=>Mz H X h,?_,?_⟩
  .refine UN bn bk H X aO cz cl (λf cj=>rfl) (λf cj=>rfl) (c bj) (bE _) a7 iu ⟨by grind,aE,.refl _ _⟩ ⟨_,_,by rw[F];exact cC⟩
  .rintro af au ⟨t,⟨y,ak⟩,bJ,S⟩ bA an N ck ah;obtain⟨cV,cW,cX⟩:=ah n.J (.inl rfl);obtain⟨a8,aw,cm⟩:=an;have bm:a8=(l6 o aB bj).toArray:=by
    apply Array.ext_getElem?;intro r;have a':(l6 o aB bj).toArray[r]?=(l6 o aB bj)[r]?:=Q;rw[a'];rcases dJ r (2*c bj)with W|W
    .have aV:=N (r / 2) x (r % 2) x;have a0:=z7 (o:=o) (aB:=aB) (bj:=bj) (A:=r / 2) (f:=r % 2) x x;rw[show 2*(r / 2)+r % 2=r by omega]at aV a0;rw[a0];simpa[aJ,aw]using aV
    grind[Fw]
   subst bm;have bt:c au.m=5:=y.aJ.len;obtain⟨cA,aA,cp,cZ,h2⟩:=y.a0.box 2 .t ⟨s.v,[]⟩ rfl aU;have cn:aA.v=.nilFunc:=by cases cp;exact(show aA.v=s.v from h2).trans aF
   have cB:∀(l:Nat) (bR:Y),eE[l]?=b bR->bR=.t:=by
    intro l bR ao
    match l,ao with
    |0,ao|1,ao|2,ao|3,ao|4,ao=>cases ao;rfl
   have cD:∀l,(au.m.set 2 ⟨.nilFunc,[n.J]⟩)[l]?=if l=2 then b ⟨.nilFunc,[n.J]⟩else au.m[l]?:=J;have bV:∀L∈au.m.set 2 ⟨.nilFunc,[n.J]⟩,L=⟨.nilFunc,[n.J]⟩∨L∈au.m:=λL e=>by grind
   have bq:aZ (qi o aB bj n.J) {au with m:=au.m.set 2 ⟨.nilFunc,[n.J]⟩}:=by
    refine⟨y.aJ.mem,by simp[bt,qi],?_,?_,?_,λA h=>⟨(y.aJ.own A h).1,λL e a6=>?_⟩⟩
    .intro l bR L ao e;rw[cD]at e;by_cases u:l=2
     .subst u;rw[bF a]at e;cases e;cases ao;refine⟨λw=>if w=n.J then b (.cells (l6 o aB bj++[]).toArray 257 (0,0))else k,⟨a,?_,Fw,bE _,by omega,[],by grind,a⟩,λw cY K=>?_,λw=>?_,λw K r=>?_⟩
      .intro A h;simp only[l6,nw]at h;obtain⟨_,_,h⟩:=h;simp only[ef,oz,pI]at h;rcases h with rfl|rfl<;>rfl
      .by_cases u:w=n.J
       .subst u;simp only[cN]at K;cases K;exact bx
       grind
      .by_cases u:w=n.J<;>simp[u]
      grind
     .match l,ao,u with
      |0,ao,_|1,ao,_|3,ao,_|4,ao,_=>cases ao;trivial
      |2,_,u=>grind
    .intro l bH L bY e I A h bG;rw[cD]at e I;by_cases u:l=2
     .grind
     rw[bp u]at e;by_cases b7:bH=2
     .grind
     rw[bp b7]at I;exact y.aJ.aL l bH L bY e I A h bG
    .intro L e A h;rcases bV L e with rfl|e
     .grind
     exact y.aJ.lt L e A h
    rcases bV L e with rfl|e
    .grind
    exact(y.aJ.own A h).2 L e a6
   have aS:c6 [.t,.t,.Q (cg 257 2 (.row n.J (c bj)) (c bj) O),.t,.cells 254 [.c (.int .u64 0),.c (.int .u32 0)]] d (qi o aB bj n.J) {au with m:=au.m.set 2 ⟨.nilFunc,[n.J]⟩}:=by
    have q:=y.a0;refine⟨by have:=q.size;grind,λA h=>by have:=q.aG A J;grind,λA r c7 h=>q.mem A r c7 J,λA h cJ r=>?_,λL e A h=>?_,?_,by rw[q.os,F],by rw[q.tape,F],by rw[q.output,F],by rw[q.own,aK]⟩
    .rw[q.ba A J (λL e a6=>by
      obtain⟨l,_,_,V⟩:=bT L e A a6
      grind) r,aH]
    .rcases bV L e with rfl|e
     .grind
     rcases q.bp L e A h with v|⟨b0,v,a1⟩
     .grind
     obtain⟨l,_,_,V⟩:=bT b0 v A a1;grind
    intro l bR L ao e;obtain⟨a4,b1,v,a1,cr⟩:=pa.box l bR L ao e;obtain⟨bW,b2,az,c5,uu⟩:=q.box l a4 b1 v a1;have a9:=cB l a4 v;have a_:=cB l bW az;subst a9 a_;by_cases u:l=2
    .subst u;cases ao;rw[a2]at e;cases e;exact⟨_,⟨.nilFunc,[n.J]⟩,a,by grind,aF.symm⟩
    refine⟨.t,b2,?_,by grind,cr.trans uu⟩
    match l,az,u with
    |0,_,_|1,_,_|3,_,_|4,_,_=>rfl
    |2,_,u=>grind
   refine⟨{au with m:=au.m.set 2 ⟨.nilFunc,[n.J]⟩},⟨t,bJ,⟨⟨y.bE.size,⟨[],?_⟩,λc1=>?_⟩,bq,g.a0.trans aS⟩,ak,S⟩,rfl,bA,λcR bP cI=>⟨bP.own,λA h L e a6=>?_,bP.n,bP.lt⟩⟩
   .obtain⟨rD,bz⟩:=y.bE.defers;rw[Mv (λbR ao=>by grind) bz];trivial
   .have b9:bQ 45 eE au (tY (c bj) n.J) t:=y.bE.le (et a Q);exact bo.e9 (d:=au) (au:={au with m:=au.m.set 2 ⟨.nilFunc,[n.J]⟩}) rfl (b9.aC c1) (tC rfl)
   rcases bV L e with rfl|e
   .grind
   exact bP.m A h L e a6
 rintro af au ⟨t,bJ,ca,bw,S⟩;refine dM.goes bJ af au ca bw S λbM aL=>?_;have b':dM (n' o aB bj D O) Z ((28,.any)::tY (c bj) D) (qi o aB bj D) (t.put (b 28) (.tuple #[])) bM:=⟨aL.bE.put cz M,aL.aJ,aL.a0⟩
 refine b'.ctl a (λbU=>ug) λbN aM=>?_;refine ar bN _ (aM.bE.le (et a Q)) aM.aJ bS ay aY cQ aO X λu bX b3 au b5 q b8 b_ bO=>cc u bX b3 au b5 q b8 b_ (aM.a0.trans bO)
end
end
abbrev BH(a:e an)(d:Bool):s:=.C [.S (.c (.M m 1 (c a) (bD.fn a))),.S (.c (.bool d))]
def g5(g:Int)(d:e bU)(a:e Int):Option (e an):=if a.all (λf=>(di g d f).isSome)then b (a.map λf=>(di g d f).getD [])else k
noncomputable def M9:Code:=mb pV
noncomputable def M_:Code:=mb (gj pV)
noncomputable def M':Code:=mb (gj (gj pV))
def M3:f146.body=b (.seq M9 (.seq M_ (.seq M' yN))):=bO
def re(g:Int)(d:e bU)(a:e Int)(f:Nat):e AM.D:=[.R ((di g d (a.getD f 0)).getD []),.bool (di g d (a.getD f 0)).isSome]
def lw(f:Int)(d:e bU)(a:e Int):e an:=a.map λg=>(di f d g).getD []
theorem Tg{f d:an}(a:gT f=b d):c d<=8:=by
 unfold gT at a;split at a
 .rename_i e;cases a;simp only[ct,cp,bM]at e;omega
 grind
theorem Nh{e:bq}{a:an}(d:hQ o e=b a):c a<=8:=by unfold hQ at d;grind[Tg]
theorem Fp{aB:e bU}{p:Int}:c ((di o aB p).getD [])<=8:=by
 cases d:di o aB p with
 |none=>simp
 |some f=>
  obtain⟨g,_,a⟩:=List.exists_of_findSome?_eq_some d;unfold gi at a;grind[Nh]
theorem N7{aB:e bU}{d:e Int}(h:f<c d){l:AM.D}{q:I}(g:(re o aB d f)[y]?=b l)(n:(l6 o aB d)[f*2+y]?=b q):Rd bi q l:=by
 have j:y<2:=(cD.1 g).1;have:=z7 (o:=o) (aB:=aB) h j;rw[Nat.mul_comm,this]at n;cases n
 match y,j with
 |0,_=>
  cases g;have:=Fp (o:=o) (aB:=aB) (p:=d.getD f 0);exact .R a x
 |1,_=>cases g;exact .bool
def _root_.Go.AM.de.le{P:aw}{j:al P}{g:Nat}{aq:dn}{f c':bd}{h:e Y}{l:Code}(p:de j g l aq c' h)(d:hK f c'):de j g l aq f h:=λq n o a=>p q n (o.le d) a
def OP(z:bI (al.cA R) 189 (l4 o))(f:e bU)(d:e Int)(C:c d<=4000000):
  ad (al.a8 R) 146 [S o,br.M f,cx.M d] [] (BH ((g5 o f d).getD []) (g5 o f d).isSome) []:=by
 refine bG.toad (bG.ff (ι:=Unit) func146 rfl M3 rfl λK=>?_);show de _ 45 _ _ _ _;refine de.seq (bX.bn (g.aW ?_));refine a8 a M ?_;show de _ 45 _ _ _ _;refine de.seq (bX.bn (g.aW ?_));refine a8 a M (g.jo (T:=257) (p:=c d) bv a a a a a a Cx x a a λD O=>?_);refine a8 a M ?_;show de _ 45 _ _ _ _;refine de.seq (bX.bn (g.aW ?_));refine a8 a M ?_;show de _ 45 _ _ _ _;have u:de (al.a8 R) 45 mS (λw t l=>∃_:Unit,b3 f146 0 (BH ((g5 o f d).getD []) (g5 o f d).isSome) [] w t l) (tY (c d) D) (qi o f d D):=by
  refine bX.bn (bX.mono (aq:=b3 f146 0 (BH ((g5 o f d).getD []) (g5 o f d).isSome) []) (g.aW ?_) λ_ _ _ B=>⟨(),B⟩);refine a8 a (show _<=_ by omega) (g.gG 29 2 (b':=.row D (c d)) (p:=c d) (o:=2) (re o f d) a a (λj n=>⟨a,λE q F W U V=>?_⟩) ?_)
  .grind [N7]
  refine g.bH 12 9 1 a a ?_;refine g.aN 6 (λj=>j<=c d/\∀q,q<j->(di o f (d.getD q 0)).isSome=i) (λj:Nat=>[(29,aL (.M m 2 (c d) (re o f d))),(30,S (c d)),(31,S j),(12,.k (.S (.q 5 1 (c (lw o f (d.take j))) (bD.fn (lw o f (d.take j))))))]) (λj=>[.t,.t,.t,.t,.t,.q 9 1 (c (lw o f (d.take j))) (bD.fn (lw o f (d.take j)))]) (λj=>c d-j) 0 a ?_ a ?_ a ⟨by omega,by omega⟩ ?_
  .simp[b4,lw]
  .simp[b4,lw]
  rintro j ⟨n,I⟩;by_cases s:j<c d
  .cases r:(di o f (d.getD j 0)).isSome with
   |true=>
    have N:lw o f (d.take (j+1))=lw o f (d.take j)++[(di o f (d.getD j 0)).getD []]:=by unfold lw;grind[List.take_add_one]
    have J:c (lw o f (d.take j))<=4000000:=by simp[lw];omega
    refine b6 [32,-37] a ?_ (g.av (j+1) a ?_ ?_ ?_ ?_)
    .simp[-av,s,re,r,a9];have:p7.bytes=16:=rfl;grind
    .exact Kf
    .exact Kf
    .grind
    omega
   |false=>
    refine b6 [32,37] a ?_ (g.aV (b3.zero a ?_))
    .simp[-av,s,re,r]
    have y:g5 o f d=k:=LZ;simp[y]
  have A:j=c d:=x;subst A;refine b6 [-32] a Q (g.aA ?_);refine cq a M (g.an a ?_);have v:g5 o f d=b (lw o f d):=by
   unfold g5;rw[bF]
   .rfl
   grind[List.mem_iff_getElem]
  simp[v]
 exact de.le (h:=n' o f d D O) (Rx (O:=O) z C u) (et a Q)
end R1
section
namespace R1
variable {q:al R}
structure hJ(l:e a')(ai:I)(eb:Nat->Option Obj)(r0:Nat)(rb:Array aC)(vq:Nat)(m5:an->Option (Nat×Array aC×Nat)):Prop where
 val:ai=.map (b r0)
 cv:eb r0=b (.map rb vq)
 dB:MapKept.Stamped rb vq
 dr:∀ak∈rb.toList,∃ac a1 es u,ak.key=ca ac/\ak.val=.map (b a1)/\m5 ac=b (a1,es,u)
 eO:∀ac a1 es u,m5 ac=b (a1,es,u)->∃ak∈rb.toList,ak.key=ca ac/\ak.val=.map (b a1)
 cI:∀ac a1 es u,m5 ac=b (a1,es,u)->eb a1=b (.map es u)/\MapKept.Stamped es u/\a1≠r0
 ds:∀ac a1 es u,m5 ac=b (a1,es,u)->∀ak∈es.toList,∃U A,ak.key=ca U/\ak.val=ca A/\(U,A)∈l/\eV U=ac
 inj:∀ac rj a1 es u dh MZ,m5 ac=b (a1,es,u)->m5 rj=b (a1,dh,MZ)->ac=rj
 all:∀U A,(U,A)∈l->∃a1 es u,m5 (eV U)=b (a1,es,u)/\∃ak∈es.toList,ak.key=ca U/\ak.val=ca A
 only:∀j r,eb j=b r->j=r0∨∃ac es u,m5 ac=b (j,es,u)
 c0:l.Pairwise λt j=>aK t.1 j.1=i
 len:∀U A,(U,A)∈l->c U<=9223372036854775807/\c A<=9223372036854775807
def gd(h:e a'):I->(Nat->Option Obj)->Prop:=λj g=>∃r0 a f d,hJ h j g r0 a f d
def tv:∀{g:e a'}{d f:an},hi g d=b f->(d,f)∈g
 |[],d,f,a=>by cases a
 |j::l,d,f,a=>by
  simp only[hi]at a;split at a
  .rename_i h;cases a;have:j.1=d:=by simpa using h
   rw[<-this];exact iH
  exact k2 _ (tv a)
def FF:∀{h:e a'}{d:an},hi h d=k->∀f,(d,f)∉h
 |[],d,_,f=>by simp
 |l::n,d,a,f=>by
  simp only[hi]at a;split at a
  .cases a
  rename_i j;intro g;rcases ef.1 g with rfl|g
  .simp at j
  exact FF a f g
def Gf{d:Array aC}{o:Nat}(s:MapKept.Stamped d o){e a:aC}(p:e∈d.toList)(l:a∈d.toList)(g:e.key=a.key):e=a:=by
 obtain⟨h,f,rfl⟩:=ft p;obtain⟨j,q,rfl⟩:=ft l;have r:=s.2.2;have n:h=j:=by have:=List.getElem_inj (h₀:=by simpa using f) (h₁:=by simpa using q) r (i:=h) (j:=j);apply this.1;simpa using g
 subst n;rfl
def hJ.find{r:e a'}{r0:Nat}{g:Array aC}{K:Nat}{h:an->Option (Nat×Array aC×Nat)}(o:hJ r ai eb r0 g K h)(d:an):
  (h (eV d)=k/\sy g ⟨(eV d).toArray⟩ k/\hi r d=k) ∨
  ∃t es w A,h (eV d)=b (t,es,w)/\sy g ⟨(eV d).toArray⟩ (b (A,.map (b t)))/\((sy es ⟨d.toArray⟩ k/\hi r d=k)∨∃B n,sy es ⟨d.toArray⟩ (b (B,ca n))/\hi r d=b n):=by
 obtain⟨R,y⟩:=z' (es:=g) ⟨(eV d).toArray⟩ (λp J=>by obtain⟨S,_,_,_,b8,_⟩:=o.dr p J;exact⟨_,b8⟩);cases f:h (eV d)with
 |none=>
  refine .inl ⟨a,?_,?_⟩
  .cases R with
   |none=>exact y
   |some j=>
    obtain⟨p,b8,q,O⟩:=y.eD j.1 j.2 rfl;obtain⟨S,t,es,w,k1,I,v⟩:=o.dr p I8;have:S=eV d:=s8 (k1.symm.trans q);rw[this,f]at v;cases v
  cases u:hi r d with
  |none=>rfl
  |some n=>
   obtain⟨t,es,w,b8,_⟩:=o.all d n (tv u);rw[f]at b8;cases b8
 |some rec=>
  obtain⟨t,es,w⟩:=rec;obtain⟨D,T,U,C⟩:=o.eO _ _ _ _ f;obtain⟨ab,E⟩:=z' (es:=es) ⟨d.toArray⟩ (λp J=>by obtain⟨F,n,b8,_⟩:=o.ds _ _ _ _ f p J;exact⟨_,b8⟩);have ae:=(o.cI _ _ _ _ f).2.1;cases R with
  |none=>exact absurd U (y.b0 rfl D T)
  |some j=>
   obtain⟨A,ai⟩:=j;obtain⟨p,b8,q,O⟩:=y.eD A ai rfl;have af:p=D:=Gf o.dB I8 T (q.trans U.symm);subst af;have Y:ai=.map (b t):=by rw[<-O,C]
   subst Y;refine .inr ⟨t,es,w,A,a,y,?_⟩;cases ab with
   |none=>
    refine .inl ⟨E,?_⟩;cases u:hi r d with
    |none=>rfl
    |some n=>
     obtain⟨M,x,W,k1,l,I,v,_⟩:=o.all d n (tv u);rw[f]at k1;cases k1;exact absurd v (E.b0 a l I)
   |some j=>
    obtain⟨B,z⟩:=j;obtain⟨l,k1,I,v⟩:=E.eD B z rfl;have H:l∈es.toList:=by rw[sI];exact pK k1
    obtain⟨F,n,G,s,V,P⟩:=o.ds _ _ _ _ f l H;have X:F=d:=s8 (G.symm.trans I);subst X;have ah:z=ca n:=by rw[<-v,s]
    subst ah;refine .inr ⟨B,n,E,?_⟩;cases u:hi r F with
    |none=>exact absurd V (FF u n)
    |some ag=>
     obtain⟨M,x,W,Q,ad,Z,L,N⟩:=o.all F ag (tv u);rw[f]at Q;cases Q;have:ad=l:=Gf ae Z H (L.trans G.symm);subst this;rw[s]at N;rw[s8 N]
end R1
end
end Go.AM
namespace Go.AM.R1
def p9(d:UInt8)(a:an):hE (d::a)=if d=47 then 0 else if hE a=-1 then -1 else hE a+1:=by unfold hE;grind[Lib.indexByte.eq_def]
def Am:hE []=-1:=cF
def A2(f:an):iX f=fi f:=by
 by_cases o:c f<=3
 .match f,o with
  |[],_=>exact cF
  |[e],_=>
   by_cases a:e=47
   .exact g3
   simp[iX,fi,iP,ih,ii,p9,Am,a,km,c9]
  |[e,g],_=>
   by_cases a:e=47
   .exact g3
   by_cases d:g=47
   .subst d;simp[iX,fi,iP,ih,lc,ii,p9,a]
   simp[iX,fi,iP,ih,ii,p9,Am,a,d]
  |[e,g,j],_=>
   by_cases a:e=47
   .subst a;simp[iX,fi,iP,ih,lc,ii,p9,km,c9]
   by_cases d:g=47
   .subst d;simp[iX,fi,iP,ih,lc,ii,p9,a,km,c9]
   have l:¬(g.toNat:Int)=47:=by intro n;apply d;apply sJ.1;grind
   by_cases h:j=47
   .subst h;simp[iX,fi,iP,ih,lc,ii,p9,a,d,km,c9]
   simp[iX,fi,iP,ih,ii,p9,Am,a,d,h,l,km,c9]
  |_::_::_::_::_,n=>grind
 have p:fi f=m:=by unfold fi;grind
 grind[A1]
end Go.AM.R1
namespace Go.AM
theorem s4(a:an):aK a []=m:=Cp
def vn(a:UInt8)(d:an):aK [] (a::d)=i:=Cp
theorem qU(a d:UInt8)(e f:an):aK (a::e) (d::f)=(decide (a<d)||a==d&&aK e f):=Cp
theorem pS:∀a:an,aK a a=m
 |[]=>s4 []
 |a::d=>by rw[qU,pS d];simp
def qW:∀a d:an,aK a d=i∨a=d∨aK d a=i
 |[],[]=>.inr (.inl rfl)
 |[],d::f=>.inl (vn d f)
 |a::e,[]=>.inr (.inr (vn a e))
 |a::e,d::f=>by
  rw[qU,qU];rcases qW e f with g|g|g
  .grind
  .grind
  grind
theorem s5:∀{g h d:an},aK g h=i->aK h d=i->aK g d=i
 |g,h,[],_,f=>by grind[s4]
 |g,[],d::j,e,_=>by grind[s4]
 |[],h::l,d::j,_,_=>vn d j
 |g::n,h::l,d::j,e,f=>by
  rw[qU,hP,ct,bM,gZ]at e f⊢;rcases e with e|⟨rfl,e⟩
  .grind
  rcases f with f|⟨rfl,f⟩
  .grind
  exact .inr ⟨a,s5 e f⟩
theorem qT{a d:an}(e:aK a d=i):aK d a=m:=by grind[s5,pS]
def MS{a d:an}:(!(aK d a||d==a))=aK a d:=by
 rcases qW a d with e|e|e
 .have u:(d==a)=m:=by simp only[gn,e3];grind[pS]
  grind[qT]
 .grind [pS]
 grind[qT]
namespace R1
def Bg{w:e a'}{f:Nat}(h:∀a,0<a->a<=f->aK (b1 w (a-1)) (b1 w a)=i):∀d,d<f->aK (b1 w d) (b1 w f)=i:=by
 intro d p;induction f with
 |zero=>omega
 |succ f l=>
  have g:=h (f+1) x (bE _);simp only[qN]at g;by_cases o:d=f
  .grind
  exact s5 (l (λa j n=>h a j x) x) g
def G8{d:an}(e:fi d=i):(∃a,d=[a])∨∃a f,d=[a,47,f]:=by
 unfold fi at e;split at e
 .rename_i g
  match d,g with
  |[a],_=>grind
 split at e
 .rename_i g
  match d,g with
  |[a,f,h],_=>
   right;simp[km,c9]at e;have j:f=47:=by apply sJ.1;grind
   grind
 grind
theorem Ni{d e:an}(g:fi d=i)(h:fi e=i)(n:aK d e=i):ka d e=under e d:=by
 rcases G8 g with⟨a,rfl⟩|⟨a,j,rfl⟩<;>rcases G8 h with⟨u,rfl⟩|⟨u,l,rfl⟩
 .exact cF
 .by_cases f:a=u
  .subst f;simp[ka,under,m1,c9]
  have:¬(a.toNat:Int)=u.toNat:=λo=>f (sJ.1 x);have q:((a.toNat:Int)==(u.toNat:Int))=m:=J;have p:(u==a)=m:=J;simp[ka,under,m1,c9];grind
 .have:¬(a.toNat:Int)=u.toNat:=by grind[UInt8.toNat_inj,qU,s4]
  simp[ka,under,m1,c9,this]
 exact cF
theorem Ib{d:e a'}{a:Nat}(g:∀f,f<a->g' d f=i):lE d a=g' d a:=by
 unfold lE g';rw[A2,MS];cases s:fi (b1 d a)with
 |false=>simp
 |true=>
  cases p:fa (ga d a)with
  |false=>simp
  |true=>
   cases t:(a==0||aK (b1 d (a-1)) (b1 d a))with
   |false=>simp
   |true=>
    simp only[gL];have r:∀f,f<a->aK (b1 d f) (b1 d a)=i:=by
     apply Bg;intro j n h;by_cases q:j=a
     .grind
     have:=g j x;simp only[g',ct,hP,gZ]at this;grind
    rw[pG,g0,g0];have u:∀f,f<a->ka (b1 d f) (b1 d a)=under (b1 d a) (b1 d f):=by
     intro f l;have o:fi (b1 d f)=i:=by have:=g f l;simp only[g',ct]at this;exact this.1.1.1
     grind[Ni]
    grind
def lI(a:e a'):pd a=dm a:=by
 unfold pd dm;congr 1;rw[pG,g0,g0];constructor
 .intro g f;induction f using Nat.strongRecOn with
  |_ f d=>grind[Ib]
 grind[Ib]
end R1
end Go.AM
namespace Go.AM
variable {p:Nat}{o:Int}{l j f y:Nat}{T:ab}{H:I->(Nat->Option Obj)->Prop}{L:Array Bool}{bi:Mem}{B:Nat}{P:aw}{bg:ae->aj->Prop}{u:Code}{X:ae}{r:ah}{d:aj}{w:ab}{ai:I}{K:af}{α:Type}{η:Z->s}{ι:Type}{h:e Y}{F:bd}{all:e ah}{dK:Array ab}{cap:e D}{dg:e s}{eb:Nat->Option Obj}{aY:e az}{bK:e (Nat×Bool)}{es:Nat->e D}{dC:Z}{gs:Array ae}{bb:e Nat}{cl:e Prop}{off:Nat}{op:BinOp}{aP:Array ah}{aB:e Prop}{bw:e ah}{au:aj}{gz:Bool}{ty:ab}{val:Nat->Nat->I}{z:e I}{a5:af}{O:e I}{aO dq:e Y}{res:ι->s}{a6:ι->e Y}
variable {CT:e (Nat×bB)}{ax:e dz}{a7:dn}{ag:e (Nat×bh)}{bz:bh}
namespace R1
section
variable {q:al R}
def hJ.jR{Y v:e a'}{r0:Nat}{E:Array aC}{O:Nat}{t:an->Option (Nat×Array aC×Nat)}(u:hJ Y ai eb r0 E O t){l:an}{A:Nat}{Q f:Array aC}{W N:Nat}(x:t l=b (A,Q,W))(ah:MapKept.Stamped f N)(D:∀r∈f.toList,∃z F,r.key=ca z/\r.val=ca F/\(z,F)∈v/\eV z=l)(C:∀z F,(z,F)∈v->eV z=l->∃r∈f.toList,r.key=ca z/\r.val=ca F)(Z:∀z F,eV z≠l->((z,F)∈v↔(z,F)∈Y))(ab:v.Pairwise λaf I=>aK af.1 I.1=i)(s:∀y B,(y,B)∈v->c y<=9223372036854775807/\c B<=9223372036854775807):
  hJ v ai (λI=>if I=A then b (.map f N)else eb I) r0 E O (λd=>if d=l then b (A,f,N)else t d):=by
 have G:=u.cI l A Q W x;have p:∀d,d≠l->∀w dU h,t d=b (w,dU,h)->w≠A:=by intro d g w dU h n r;subst r;exact g (u.inj d l _ _ _ _ _ n x)
 refine⟨u.val,?_,u.dB,?_,?_,?_,?_,?_,?_,?_,ab,s⟩
 .show (if r0=A then _ else _)=_;rw[bp (λr=>G.2.2 r.symm)];exact u.cv
 .intro r K;obtain⟨d,w,dU,h,j,n,S⟩:=u.dr r K;by_cases g:d=l
  .subst g;rw[x]at S;cases S;exact⟨d,A,f,N,j,n,bF a⟩
  exact⟨d,w,dU,h,j,n,by show(if d=l then _ else _)=_;rw[bp g];exact S⟩
 .intro d w dU h g;by_cases q:d=l
  .subst q;simp only[cN]at g;cases g;exact u.eO _ _ _ _ x
  simp only[q,cr]at g;exact u.eO _ _ _ _ g
 .intro d w dU h g;by_cases q:d=l
  .subst q;simp only[cN]at g;cases g;exact⟨bF a,ah,G.2.2⟩
  simp only[q,cr]at g;have n:=u.cI _ _ _ _ g;refine⟨?_,n.2⟩;show(if w=A then _ else _)=_;rw[bp (p d q _ _ _ g)];exact n.1
 .intro d w dU h g r K;by_cases q:d=l
  .subst q;simp only[cN]at g;cases g;exact D r K
  simp only[q,cr]at g;obtain⟨y,B,k1,ae,ad,V⟩:=u.ds _ _ _ _ g r K;exact⟨y,B,k1,ae,(Z y B (by rw[V];exact q)).2 ad,V⟩
 .intro d J w dU h X k_ g o;by_cases q:d=l
  .subst q;simp only[cN]at g;cases g;by_cases M:J=d
   .exact M.symm
   simp only[M,cr]at o;exact absurd a (p J M _ _ _ o)
  simp only[q,cr]at g;by_cases M:J=l
  .subst M;simp only[cN]at o;cases o;exact absurd a (p d q _ _ _ g)
  simp only[M,cr]at o;exact u.inj _ _ _ _ _ _ _ g o
 .intro y B H;by_cases R:eV y=l
  .refine⟨A,f,N,bF R,C y B H R⟩
  obtain⟨w,dU,h,j,n⟩:=u.all y B ((Z y B R).1 H);exact⟨w,dU,h,by show(if eV y=l then _ else _)=_;rw[bp R];exact j,n⟩
 intro I ag U;by_cases T:I=A
 .subst T;exact .inr ⟨l,f,N,bF a⟩
 simp only[T,cr]at U;rcases u.only I ag U with j|⟨d,dU,h,j⟩
 .exact .inl j
 have q:d≠l:=by rintro rfl;rw[x]at j;cases j;exact T a
 exact .inr ⟨d,dU,h,by show(if d=l then _ else _)=_;rw[bp q];exact j⟩
def hJ.js{F:e a'}{r0:Nat}{n:Array aC}{u:Nat}{p:an->Option (Nat×Array aC×Nat)}(r:hJ F ai eb r0 n u p){l:an}{t:Nat}(bL:p l=k)(A:eb t=k)(N:∀w∈n.toList,w.key≠ca l):
  hJ F ai (λv=>if v=r0 then b (.map (n.push ⟨ca l,.map (b t),u⟩) (u+1))else if v=t then b (.map #[] 0)else eb v) r0 (n.push ⟨ca l,.map (b t),u⟩) (u+1) (λg=>if g=l then b (t,#[],0)else p g):=by
 have J:t≠r0:=by rintro rfl;rw[r.cv]at A;cases A
 have j:∀g s dU d,p g=b (s,dU,d)->s≠t:=by rintro g s dU d h rfl;rw[(r.cI _ _ _ _ h).1]at A;cases A
 refine⟨r.val,bF a,MapKept.stamped_push r.dB N,?_,?_,?_,?_,?_,?_,?_,r.c0,r.len⟩
 .intro w o;rw[sK,fu]at o;rcases o with o|o
  .obtain⟨g,s,dU,d,b8,h,C⟩:=r.dr w o;have f:g≠l:=by rintro rfl;rw[bL]at C;cases C
   exact⟨g,s,dU,d,b8,h,by show(if g=l then _ else _)=_;rw[bp f];exact C⟩
  simp at o;subst o;exact⟨l,t,#[],0,a,a,bF a⟩
 .intro g s dU d f;by_cases q:g=l
  .subst q;simp only[cN]at f;cases f;exact Lw
  simp only[q,cr]at f;obtain⟨w,b8,h⟩:=r.eO _ _ _ _ f;exact⟨w,by rw[sK];exact yg _ b8,h⟩
 .intro g s dU d f;by_cases q:g=l
  .subst q;simp only[cN]at f;cases f;refine⟨?_,MapKept.stamped_empty _,J⟩;show(if t=r0 then _ else if t=t then _ else _)=_;rw[bp J,bF a]
  simp only[q,cr]at f;have h:=r.cI _ _ _ _ f;refine⟨?_,h.2⟩;show(if s=r0 then _ else if s=t then _ else _)=_;rw[bp h.2.2,bp (j _ _ _ _ f)];exact h.1
 .intro g s dU d f w o;by_cases q:g=l
  .subst q;simp only[cN]at f;cases f;simp at o
  simp only[q,cr]at f;exact r.ds _ _ _ _ f w o
 .intro g x s dU d E k_ f y;by_cases q:g=l
  .subst q;simp only[cN]at f;cases f;by_cases z:x=g
   .exact z.symm
   simp only[z,cr]at y;exact absurd a (j x _ _ _ y)
  simp only[q,cr]at f;by_cases z:x=l
  .subst z;simp only[cN]at y;cases y;exact absurd a (j g _ _ _ f)
  simp only[z,cr]at y;exact r.inj _ _ _ _ _ _ _ f y
 .intro B O Q;obtain⟨s,dU,d,b8,h⟩:=r.all B O Q;have R:eV B≠l:=I2;exact⟨s,dU,d,by show(if eV B=l then _ else _)=_;rw[bp R];exact b8,h⟩
 intro v M D;by_cases I:v=r0
 .exact .inl I
 simp only[I,cr]at D;by_cases K:v=t
 .subst K;exact .inr ⟨l,#[],0,bF a⟩
 simp only[K,cr]at D;rcases r.only v M D with b8|⟨g,dU,d,b8⟩
 .exact .inl b8
 have q:g≠l:=I2;exact .inr ⟨g,dU,d,by show(if g=l then _ else _)=_;rw[bp q];exact b8⟩
def fw:e a'->a'->e a'
 |[],a=>[a]
 |d::f,a=>if d.1=a.1 then a::f else if aK a.1 d.1=i then a::d::f else d::fw f a
abbrev nt(f:e a'):Prop:=f.Pairwise λa d=>aK a.1 d.1=i
def qV{a d:an}(e:aK a d=i):a≠d:=by rintro rfl;rw[pS]at e;cases e
def p_:∀{p:e a'}{h:a'},nt p->∀j l,(j,l)∈fw p h↔(j=h.1/\l=h.2)∨(j≠h.1/\(j,l)∈p)
 |[],h,_,j,l=>by simp only[fw,eN,oz,and_false,pI];exact⟨λd=>by rw[<-d];exact⟨a,a⟩,λd=>Prod.ext d.1 d.2⟩
 |u::v,h,t,j,l=>by
  have n:=ia.1 t;simp only[fw];split
  .rename_i y;rw[ef,ef];constructor
   .rintro(d|d)
    .exact .inl (by rw[<-d];exact⟨a,a⟩)
    have:=n.1 _ d;exact .inr ⟨λg=>by rw[y]at this;exact qV this g.symm,.inr d⟩
   rintro(d|⟨o,f|f⟩)
   .exact .inl (Prod.ext d.1 d.2)
   .exact absurd (by rw[<-y,<-f]) o
   exact .inr f
  rename_i q;split
  .rename_i r;rw[ef];constructor
   .rintro(d|d)
    .exact .inl (by rw[<-d];exact⟨a,a⟩)
    refine .inr ⟨λg=>?_,d⟩;rcases ef.1 d with f|f
    .apply q;rw[<-f];exact g
    have s:=s5 r (n.1 _ f);exact qV s g.symm
   rintro(d|⟨_,d⟩)
   .exact .inl (Prod.ext d.1 d.2)
   exact .inr d
  rw[ef,ef,p_ n.2];constructor
  .rintro(d|d|d)
   .exact .inr ⟨λg=>q (by rw[<-d];exact g),.inl d⟩
   .exact .inl d
   exact .inr ⟨d.1,.inr d.2⟩
  rintro(d|⟨o,f|f⟩)
  .exact .inr (.inl d)
  .exact .inl f
  exact .inr (.inr ⟨o,f⟩)
def F_:∀{n:e a'}{h:a'},nt n->nt (fw n h)
 |[],h,_=>by simp[fw]
 |j::s,h,l=>by
  have g:=ia.1 l;simp only[fw];split
  .rename_i o;exact ia.2 ⟨λf d=>by rw[<-o];exact g.1 f d,g.2⟩
  rename_i p;split
  .rename_i u;refine ia.2 ⟨λf d=>?_,l⟩;rcases ef.1 d with rfl|d
   .exact u
   exact s5 u (g.1 f d)
  rename_i q;have r:aK j.1 h.1=i:=by
   rcases qW j.1 h.1 with a|a|a
   .exact a
   .exact absurd a p
   exact absurd a q
  refine ia.2 ⟨λf d=>?_,F_ g.2⟩;rcases(p_ g.2 f.1 f.2).1 d with a|a
  .rw[a.1];exact r
  exact g.1 f a.2
def UW{a:Array aC}{f:Nat}(j:MapKept.Stamped a f){g:aC}(h:a[y]?=b g)(l:I):MapKept.Stamped (a.modify y λd=>{key:=g.key,val:=l,born:=d.born}) f:=
 MapKept.stamped_modify j y _ (λ_ _=>rfl) (λd _ e=>by rw[h]at e;cases e;rfl)
def SH{a:Array aC}{ac:aC->aC}{f:aC}(n:a[y]?=b f){lf:aC}(p:(a.toList.map (λu=>u.key)).Nodup)(r:(ac f).key=f.key):lf∈(a.modify y ac).toList↔lf=ac f∨(lf∈a.toList/\lf.key≠f.key):=by
 have o:y<a.size:=(hM.1 n).1;have g:a[y]=f:=(hM.1 n).2;constructor
 .intro l;obtain⟨e,d,rfl⟩:=ft l;have h:e<a.size:=by simpa using d
  simp only[Array.getElem_toList,yi];by_cases j:y=e
  .subst j;left;simp[g]
  right;rw[bp j];refine⟨by simp,λt=>j ?_⟩;have:=List.getElem_inj (h₀:=by simpa using h) (h₁:=by simpa using o) p (i:=e) (j:=y);exact(this.1 (by simpa[g]using t)).symm
 rintro(rfl|⟨l,q⟩)
 .rw[sI,yf];exact⟨y,by simpa using o,by simp[yi,g]⟩
 obtain⟨e,d,rfl⟩:=ft l;have h:e<a.size:=by simpa using d
 rw[sI,yf];refine⟨e,by simpa using h,?_⟩;have s:y≠e:=by rintro rfl;apply q;simp[g]
 simp[yi,s]
def hJ.hq{E:e a'}{r0:Nat}{p:Array aC}{t:Nat}{h:an->Option (Nat×Array aC×Nat)}(j:hJ E ai eb r0 p t h){l s:an}{B:Nat}{q:Array aC}{F:Nat}(r:h (eV l)=b (B,q,F))(N:c l<=9223372036854775807)(R:c s<=9223372036854775807){f:Array aC}{z:Nat}(J:MapKept.Stamped f z)(O:∀g,g∈f.toList->(g.key=ca l/\g.val=ca s)∨(g∈q.toList/\g.key≠ca l))(K:∃g∈f.toList,g.key=ca l/\g.val=ca s)(M:∀g∈q.toList,g.key≠ca l->g∈f.toList):
  hJ (fw E (l,s)) ai (λC=>if C=B then b (.map f z)else eb C) r0 p t (λD=>if D=eV l then b (B,f,z)else h D):=by
 refine j.jR r J ?_ ?_ ?_ (F_ j.c0) ?_
 .intro g Q;rcases O g Q with⟨b8,d⟩|⟨b8,d⟩
  .exact⟨l,s,b8,d,(p_ j.c0 l s).2 (.inl ⟨a,a⟩),a⟩
  obtain⟨n,o,k1,x,v,A⟩:=j.ds _ _ _ _ r g b8;refine⟨n,o,k1,x,(p_ j.c0 n o).2 (.inr ⟨λg=>?_,v⟩),A⟩;apply d;rw[k1,g]
 .intro n o y u;rcases(p_ j.c0 n o).1 y with⟨rfl,rfl⟩|⟨b8,d⟩
  .exact K
  obtain⟨S,dU,I,k1,g,x,v,A⟩:=j.all n o d;rw[u,r]at k1;cases k1;exact⟨g,M g x (by rw[v];exactλw=>b8 (s8 w)),v,A⟩
 .intro n o u;rw[p_ j.c0];constructor
  .rintro(⟨rfl,_⟩|⟨_,d⟩)
   .exact absurd a u
   exact d
  intro d;exact .inr ⟨by rintro rfl;exact u rfl,d⟩
 intro n o y;rcases(p_ j.c0 n o).1 y with⟨rfl,rfl⟩|⟨_,d⟩
 .exact⟨N,R⟩
 exact j.len n o d
def fT(f:Int)(a:e bU)(d:kY):Option a':=match g5 f a d.2 with
 |none=>k
 |some g=>match ig g with
  |none=>k
  |some h=>b (d.1,h)
def fb(d:Int)(a:e bU)(f:e kY):e a':=f.map λg=>(fT d a g).getD ([],[])
def e0(d:Int)(f:fE)(a:e bU):Option (e a'):=
 if cB d&&f.2.all (λg=>(fT d a g).isSome)&&dm (fb d a f.2)then b (fb d a f.2)else k
abbrev lG(a:e a')(d:Bool):s:=.C [.S (.c (.M m 2 (c a) (bf.fn a))),.S (.c (.bool d))]
abbrev mT(a:fE):s:=.k (.agg [.c (.int .i64 a.1),.c (.M m 2 (c a.2) (cP.fn a.2))])
theorem zZ{aB:e bU}{a:e kY}(d:f<c a):fb o aB (a.take (f+1))=fb o aB (a.take f)++[(fT o aB (a.getD f ([],[]))).getD ([],[])]:=by unfold fb;grind[List.take_add_one]
def Bs{aB:e bU}{a:fE}(g:f<c a.2)(d:fT o aB (a.2.getD f ([],[]))=k):e0 o a aB=k:=by unfold e0;rw[bp];grind
def Rf{d:e bU}{a:e Int}{h:e an}(f:g5 o d a=b h)(n:c a<=4000000):c h.flatten<=140737488355328/\c h<=4000000:=by
 unfold g5 at f;split at f
 .rename_i l;cases f;refine⟨?_,by grind⟩;have key:∀a:e Int,(a.all λg=>(di o d g).isSome)=i->(a.map λg=>(di o d g).getD []).flatten.length<=8*c a:=by
   intro a;induction a with
   |nil=>grind
   |cons g a j=>
    intro f;simp only[List.all_cons,ct]at f;grind[Fp]
  grind
 grind
def QM(h:Int)(f:fE)(d:e bU)(Z:c f.2<=4000000)(G:∀l∈f.2,c l.2<=4000000):
  ad (al.a8 R) 109 [S h,mT f,br.M d] [] (lG ((e0 h f d).getD []) (e0 h f d).isSome) []:=by
 refine ad.E func109 rfl λN=>?_;have ab:=N.M 2 a;have n:a3 (al.a8 R) [(55,df dc (λh=>bm (cB h)) λ_=>[])]:=.cons t55 .nil;cases cI:cB h with
 |false=>
  refine a4 n [-15,16] a qt (g.an a ?_);simp[e0,cI]
 |true=>
  have W:bI (al.cA R) 189 (l4 h):=VA xo cI;refine a4 n [15,-16,904] a qt (g.bH 8 74 2 a a ?_);refine cu n a M (g.aN 2 (λj=>j<=c f.2/\∀z,z<j->(fT h d (f.2.getD z ([],[]))).isSome=i) (λj:Nat=>[(0,S h),(2,br.M d),(4,ba 0 0),(8,.k (.S (.q 1 2 (c (fb h d (f.2.take j))) (bf.fn (fb h d (f.2.take j)))))),(18,cP.M f.2),(19,S (c f.2)),(20,S j)]) (λj=>[.cells 65 [.c (.int .i64 f.1),.c (.M m 2 (c f.2) (cP.fn f.2))],.q 74 2 (c (fb h d (f.2.take j))) (bf.fn (fb h d (f.2.take j)))]) (λj=>c f.2-j) 0 a xT a xT a ⟨by omega,by omega⟩ ?_);rintro j ⟨O,ae⟩;by_cases v:j<c f.2
  .have r:f.2.getD j ([],[])∈f.2:=J;generalize t:f.2.getD j ([],[])=l at r;have B:=G l r;have u:=OP W d l.2 B;cases o:g5 h d l.2 with
   |none=>
    rw[o]at u;refine a4 n [21] a bx (g.aF (t▸u) [] a (a4 n [33] a Q (g.aV (b3.zero a ?_))));have p:fT h d l=k:=by simp[fT,o]
    rw[Bs v J];simp
   |some A=>
    obtain⟨X,s⟩:=Rf o B;rw[o]at u;have T:=OG (q:=al.a8 R) A X;refine a4 n [21] a bx (g.aF (t▸u) [] a (a4 n [-33] a Q (g.aF T [] a ?_)));cases C:ig A with
    |none=>
     refine a4 n [40] a Q (g.aV (b3.zero a ?_));have p:fT h d l=k:=by simp[fT,o,C]
     rw[Bs v J];simp
    |some w=>
     have p:fT h d l=b (l.1,w):=by simp[fT,o,C]
     have K:f.2.getD (j:Int).toNat cP.N=l:=t;have Y:c (fb h d (f.2.take j))<=4000000:=by simp[fb];omega
     have I:b4 (c (fb h d (f.2.take j))+1) (b_ (c (fb h d (f.2.take j))) (bf.fn (fb h d (f.2.take j))) λU=>[[D.R (f.2.getD (j:Int).toNat cP.N).1,D.R ((b w).getD [])]].getD U []) (bf.fn (fb h d (f.2.take (j+1)))):=by rw[zZ v,t,p,K];exact bf.aZ (fb h d (f.2.take j)) (l.1,w)
     have F:c (fb h d (f.2.take j))+1=c (fb h d (f.2.take (j+1))):=by grind[zZ]
     refine a4 n [-40] a ?_ (g.av (j+1) a ?_ ?_ ?_ ?_)
     .refine⟨by exact bH,a,a,?_,a⟩;show _*32<=_;omega
     .refine V.W.2 ⟨a,V.W.2 ⟨⟨a,b4.same⟩,V.W.2 ⟨M,V.W.2 ⟨⟨F,I⟩,V.W.2 ⟨⟨a,b4.same⟩,V.W.2 ⟨a,V.W.2 ⟨?_,M⟩⟩⟩⟩⟩⟩⟩;simp
     .exact V.W.2 ⟨V.W.2 ⟨a,V.W.2 ⟨⟨a,b4.same⟩,M⟩⟩,V.W.2 ⟨⟨F,I⟩,M⟩⟩
     .grind
     omega
  have p:j=c f.2:=x;subst p;refine a4 n [-21] a Q (g.aA ?_);rw[eB];have y:=Fg (q:=al.a8 R) (fb h d f.2);rw[lI]at y;refine cu n a M (g.aF y [] a ?_);have H:f.2.all (λl=>(fT h d l).isSome)=i:=aX.2 λl r=>by grind[List.mem_iff_getElem]
  cases E:dm (fb h d f.2)with
  |false=>
   refine a4 n [51] a Q (g.an a ?_);simp[e0,E]
  |true=>
   refine a4 n [-51] a Q (g.an a ?_);simp[e0,E,cI,H]
abbrev bP:=e bU×e fE×e (Int×Int)
def oa(d:bP):Prop:=∀a∈d.2.1,c a.2<=4000000/\∀e∈a.2,c e.2<=4000000
abbrev fg(a:bP):s:=.k (.agg [.c (.M m 2 (c a.1) (br.fn a.1)),.c (.M m 2 (c a.2.1) (cG.fn a.2.1)),.c (.M m 2 (c a.2.2) (bV.fn a.2.2))])
def DV:bB:=jJ dc (jD cP) (fQ br) (λe d a=>lG ((e0 e d a).getD []) (e0 e d a).isSome) λ_ d _=>[c d.2<=4000000,∀f∈d.2,c f.2<=4000000]
def Wa:bI (al.a8 R) 109 DV:=.cJ λe f a d=>QM e f a d.1 d.2
def pM:i2 bP:=⟨fg,λr=>match r with
 |.k (.agg [.c q,.c s,.c t])=>match i0 2 (aL q)with
  |some (l,g)=>match i0 2 (aL s)with
   |some (n,o)=>match i0 2 (aL t)with
    |some (p,j)=>b ((br.ao l g,cG.ao n o,bV.ao p j),[br.bV l g,cG.bV n o,bV.bV p j])
    |none=>k
   |none=>k
  |none=>k
 |_=>k,λ{r q C} f e h d ai y=>by
 split at f
 .split at f
  .rename_i l g w;split at f
   .rename_i n o v;split at f
    .rename_i p j K;cases f;obtain⟨z,u,a⟩:=y
     match z,a with
     |[],a=>exact a.elim
     |[_],a=>exact a.2.elim
     |[_,_],a=>exact a.2.2.elim
     |_::_::_::_::_,a=>exact a.2.2.2.elim
     |[A,B,x],a=>
      exact⟨_,u,br.b8 (h:=[]) (d:=d) (ai:=A) w e.1 a.1,cG.b8 (h:=[]) (d:=d) (ai:=B) v e.2.1 a.2.1,bV.b8 (h:=[]) (d:=d) (ai:=x) K e.2.2 a.2.2.1,M⟩
    grind
   grind
  grind
 grind⟩
abbrev eF(d:bU)(a:Nat):bq:=d.2.getD a (0,[])
def hr(e:Int)(d:bU)(a:Nat):Bool:=right e (eF d a)&&(a==0||decide ((eF d (a-1)).1<(eF d a).1))
theorem AW(d:Int)(a:bU):ho d a=((aI (c a.2)).all (hr d a)&&(cB d&&decide (1<=a.1)&&decide (a.1<=99)&&decide (1<=c a.2)&&decide (c a.2<=4))):=by
 have l:(a.2.all (right d)&&Bt (a.2.map (·.1)))=(aI (c a.2)).all (hr d a):=by
  rw[pG,ct,aX,aX];unfold Bt;rw[aX];have g:∀f,f<c a.2->(a.2.map (·.1)).getD f 0=(eF a f).1:=λf bL=>by grind
  constructor
  .rintro⟨j,e⟩ f bL;have bL:=pC.1 bL;have o:=e f J;rw[g f bL]at o;unfold hr;rw[j (eF a f) J,gL];rcases mP f with rfl|p
   .rfl
   grind
  intro n;refine⟨λq h=>?_,λf bL=>?_⟩
  .obtain⟨f,bL,rfl⟩:=CL.1 h;exact KC
  have bL:f<c a.2:=J;exact KC
 rw[<-l];unfold ho;cases cB d<;>cases decide (1<=a.1)<;>cases decide (a.1<=99)<;>cases decide (1<=c a.2)<;>cases decide (c a.2<=4)<;>simp
def G2{a:bU}(d:f<c a.2)(e:hr o a f=m):ho o a=m:=by grind[AW]
theorem zd{A:bq}(a:cB o=i):(hQ o A).isSome=right o A:=by unfold hQ right;grind
def Qf(f:Int)(d:bU)(j:cB f=i)(A:c d.2<=4000000):ad q 106 [S f,l9 d] [] (bm (ho f d)) []:=by
 refine ad.E func106 rfl λC=>?_;have h:a3 q [(55,df dc (λf=>bm (cB f)) λ_=>[]),(144,eK qC dc (λz f=>hT (hQ f z)) λ_ f=>[cB f=i])]:=.cons t55 (.cons (Ip xo) .nil);refine cu h a M (g.aN 1 (λe=>e<=c d.2/\∀l,l<e->hr f d l=i) (λe:Nat=>[(0,S f),(3,ba 0 0),(10,bS.M d.2),(11,S (c d.2)),(12,S e)]) (λ_=>[.cells 61 [.c (.int .i64 d.1),.c (jW d)]]) (λe=>c d.2-e) 0 a Q a Q a ⟨by omega,by omega⟩ ?_);rintro e ⟨v,t⟩;by_cases r:e<c d.2
 .cases o:right f (eF d e)with
  |false=>
   have p:(hQ f (eF d e)).isSome=m:=by grind[zd]
   refine a4 h [13,24,40] a dX (g.aV (b3.zero a ?_));rw[G2 r (by simp only[hr,o,sP])];simp
  |true=>
   have p:(!(hQ f (eF d e)).isSome)=m:=by grind[zd]
   by_cases y:e=0
   .subst y;refine a4 h [13,-24,-27,-40] a ky (g.av 1 a Q Q ⟨by omega,λl n=>?_⟩ x);have:l=0:=x;subst this;simp only[hr,o,gL];rfl
   have F:((e:Int)-1).toNat=e-1:=x;cases s:decide ((eF d (e-1)).1<(eF d e).1)with
   |false=>
    refine a4 h [13,-24,27,38,40] a ?_ (g.aV (b3.zero a ?_))
    .have X:(d.2.getD ((e:Int)-1).toNat bS.N).1=(eF d (e-1)).1:=bH;refine⟨a,gf ?_,by omega,by omega,by exact bH,gf x,p,j,by omega,by omega,gf x⟩;rw[X];show(eF d e).1<=_;grind
    rw[G2 r (by simp only[hr,o,s,gL,Bool.or_false];grind)];simp
   |true=>
    refine a4 h [13,-24,27,-38,-40] a ?_ (g.av (e+1) a ?_ ?_ ⟨by omega,λl n=>?_⟩ x)
    .have X:(d.2.getD ((e:Int)-1).toNat bS.N).1=(eF d (e-1)).1:=bH;refine⟨by exact bH,a,qJ ?_,by omega,by omega,by exact bH,gf x,p,j,by omega,by omega,gf x⟩;rw[X];show¬(eF d e).1<=_;grind
    .simp
    .simp
    rcases yc.1 n with n|rfl
    .grind
    simp only[hr,o,s,gL,Bool.or_true]
 have u:e=c d.2:=x;subst u;refine a4 h [-13] a Q (g.aA ?_);have w:(aI (c d.2)).all (hr f d)=i:=aX.2 λl n=>t l (pC.1 n);rw[AW,w,j];by_cases D:1<=d.1
 .by_cases E:d.1<=99
  .by_cases K:1<=c d.2
   .by_cases B:c d.2<=4
    .refine a4 h [43,47,52,58,64] a bH (g.an a ?_);exact bx
    refine a4 h [43,47,52,58,-64] a bH (g.an a ?_);exact bx
   refine a4 h [43,47,52,-58] a dX (g.an a ?_);exact bx
  refine a4 h [43,47,-52] a dX (g.an a ?_);exact bx
 refine a4 h [43,-47] a dX (g.an a ?_);exact bx
def y2:bB:=eK dc (jD bS) (λa d=>bm (ho a d)) λa d=>[cB a=i,c d.2<=4000000]
def Ir:bI q 106 y2:=.bf λd e a=>Qf d e a.1 a.2
def EN(d:e (Int×Int))(n:c d<=4000000):ad q 75 [bV.M d] [] (dR 0 (.M (c d) 2 0 (c d))) [.A 104 2 (c d) (bV.fn d)]:=by
 refine ad.E func75 rfl λo=>?_;refine a8 a M (g.eT bv a a a a a a λh j=>?_);cases h with
 |true=>
  obtain rfl:=j5 (j rfl);refine a8 a M (g.hh 2 104 2 (bV.fn []) a ?_);refine g.aQ [0] a ?_ (λl f=>absurd f Q);simp
 |false=>
  refine is [] 7 a M (g.fq 5 104 2 (bV.fn []) a ?_);refine a8 a ⟨a,a,show(0+c d)*16<=_ by omega⟩ (g.bq [.A 104 2 (c d) (bV.fn d)] a ?_ ?_)
  .simp[b4,b_]
  refine g.aQ [0] a ?_ (λl f=>absurd f Q);simp;rfl
def Ov(d:e (Int×Int))(h:c d<=4000000):ad q 75 [bV.M d] [] (bV.M d) []:=by
 refine ad.E func75 rfl λj=>?_;refine a8 a M (g.eT bv a a a a a a λf t=>?_);cases f with
 |true=>
  exact xE
 |false=>
  exact a8 a ⟨show(0+c d)*16<=_ by omega,.inl a⟩ xA
def Ow(d:e bq)(h:c d<=4000000):ad q 131 [bS.M d] [] (bS.M d) []:=by
 refine ad.E func131 rfl λj=>?_;refine a8 a M (g.eT bv a a a a a a λf t=>?_);cases f with
 |true=>
  exact xE
 |false=>
  exact a8 a ⟨show(0+c d)*24<=_ by omega,.inl a⟩ xA
def Ox(d:e Int)(h:c d<=4000000):ad q 132 [cx.M d] [] (cx.M d) []:=by
 refine ad.E func132 rfl λj=>?_;refine a8 a M (g.eT bv a a a a a a λf t=>?_);cases f with
 |true=>
  exact xE
 |false=>
  exact a8 a ⟨show(0+c d)*8<=_ by omega,.inl a⟩ xA
def _root_.Go.AM.dO.dj(d:dO α)(a:e α)(l:f<c a)(g:α):b4 (f+1) (b_ f (d.fn (a.take f)) (λh=>[d.a1 (a.getD f g)].getD h [])) (d.fn (a.take (f+1))):=by
 have j:a.take (f+1)=a.take f++[a.getD f g]:=by grind[List.take_add_one]
 have:=d.aZ (a.take f) (a.getD f g);grind
abbrev Dm:bB:=df (fQ bS) (λa=>bS.M a) λa=>[c a<=4000000]
def Vs:bI q 131 Dm:=.a3 λd a=>Ow d a
abbrev Dn:bB:=df (fQ cx) (λa=>cx.M a) λa=>[c a<=4000000]
def Vt:bI q 132 Dn:=.a3 λd a=>Ox d a
def Qb(d:bU)(e:c d.2<=4000000):ad q 73 [l9 d] [] (l9 d) []:=by
 refine ad.cS bv func73 rfl rfl rfl λj=>?_;have f:a3 q [(131,Dm)]:=.cons Vs .nil;refine cu f a ?_ ?_
 .simp only[V,bS.aa];exact⟨bS.ad _,e⟩
 refine g.cc () [] ?_ (λl h=>absurd h Q);simp[bS.aa]
abbrev y4:bB:=df (jD bS) (λa=>l9 a) λa=>[c a.2<=4000000]
def It:bI q 73 y4:=.a3 λd a=>Qb d a
def QJ(d:fE)(v:c d.2<=4000000)(n:∀s∈d.2,c s.2<=4000000):ad q 74 [mT d] [] (mT d) []:=by
 refine ad.cS bv func74 rfl rfl rfl λu=>?_;have f:a3 q [(132,Dn)]:=.cons Vt .nil;refine a4 f [902] a M (g.cP 2 1 135 2 (cP.fn []) a a ?_);refine cu f a M ?_;refine g.aN 4 (λe=>e<=c d.2) (λe:Nat=>[(2,ba 1 0),(3,ba 2 0),(10,cP.M d.2),(11,S (c d.2)),(12,S e)])
  (λe=>[.cells 65 [.c (.int .i64 d.1),.c (.M m 2 (c d.2) (cP.fn d.2))],.cells 65 [.c (.int .i64 0),.c (.M i 0 0 λ_=>[])],.cells 65 [.c (.int .i64 d.1),.q 3 2 e (cP.fn (d.2.take e))],.q 135 2 e (cP.fn (d.2.take e))]) (λe=>c d.2-e) 0 a ?_ a ?_ a x ?_
 .simp
 .simp
 intro e p;by_cases o:e<c d.2
 .have X:d.2.getD e ([],[])∈d.2:=J;refine a4 f [13] a ?_ (g.av (e+1) a ?_ ?_ ?_ ?_)
  .have r:=n _ X;have h:d.2.getD (e:Int).toNat cP.N=d.2.getD e ([],[]):=J;simp only[V,h,cx.aa,a9];exact⟨by omega,M,M,show(e+1)*40<=_ by omega,cx.ad _,r,by omega,by omega,gf x⟩
  .simp
  .have h:d.2.getD (e:Int).toNat cP.N=d.2.getD e ([],[]):=J;have j:=cP.dj d.2 o ([],[]);simp only[V.W,V,h,cx.aa,bl,bn];exact⟨b4.same,b4.same,j,j⟩
  .grind
  omega
 obtain rfl:e=c d.2:=x;refine a4 f [-13] a Q (g.aA ?_);refine cu f a M (g.cc () [] ?_ (λt l=>absurd l Q));simp
abbrev y7:bB:=df (jD cP) (λa=>mT a) λa=>[c a.2<=4000000,∀d∈a.2,c d.2<=4000000]
def Ix:bI q 74 y7:=.a3 λd a=>QJ d a.1 a.2
abbrev eu:C:=.c (.M i 0 0 λ_=>[])
def QW(d:bP)(s:c d.1<=4000000)(X:∀p∈d.1,c p.2<=4000000)(u:c d.2.1<=4000000)(N:oa d)(o:c d.2.2<=4000000):
  ad q 24 [fg d] [] (.k (.agg [.ak 0 (.M (c d.1) 2 0 (c d.1)),.ak 1 (.M (c d.2.1) 2 0 (c d.2.1)),.c (.M m 2 (c d.2.2) (bV.fn d.2.2))])) [.A 61 2 (c d.1) (br.fn d.1),.A 65 2 (c d.2.1) (cG.fn d.2.1)]:=by
 refine ad.cS bv func24 rfl rfl rfl λt=>?_;have e:a3 q [(73,y4),(74,y7)]:=.cons It (.cons Ix .nil);refine a4 e [902] a M (g.fp 2 0 61 2 (br.fn []) a a ?_);refine g.fp 2 1 65 2 (cG.fn []) a a ?_;refine cu e a M ?_;refine g.aN 5 (λf=>f<=c d.1) (λf:Nat=>[(1,ba 0 0),(2,ba 1 0),(3,ba 2 0),(9,br.M d.1),(10,S (c d.1)),(11,S f)])
  (λf=>[.cells 27 [.c (.M m 2 (c d.1) (br.fn d.1)),.c (.M m 2 (c d.2.1) (cG.fn d.2.1)),.c (.M m 2 (c d.2.2) (bV.fn d.2.2))],.cells 27 [eu,eu,eu],.cells 27 [.ak 3 (.M f 2 0 f),.ak 4 (.M 0 2 0 0),eu],.A 61 2 f (br.fn (d.1.take f)),.A 65 2 0 (cG.fn [])]) (λf=>c d.1-f) 0 a ?_ a ?_ a x ?_
 .simp
 .simp
 intro f h;by_cases n:f<c d.1
 .have ac:d.1.getD f (0,[])∈d.1:=J;have j:d.1.getD (f:Int).toNat br.N=d.1.getD f (0,[]):=J;refine a4 e [12] a J9 (g.av (f+1) a Q KJ J ?_);omega
 obtain rfl:f=c d.1:=x;rw[eB];refine a4 e [-12] a Q (g.aA ?_);refine cu e a M ?_;refine g.aN 5 (λf=>f<=c d.2.1) (λf:Nat=>[(1,ba 0 0),(2,ba 1 0),(3,ba 2 0),(24,cG.M d.2.1),(25,S (c d.2.1)),(26,S f)])
  (λf=>[.cells 27 [.c (.M m 2 (c d.1) (br.fn d.1)),.c (.M m 2 (c d.2.1) (cG.fn d.2.1)),.c (.M m 2 (c d.2.2) (bV.fn d.2.2))],.cells 27 [eu,eu,eu],.cells 27 [.ak 3 (.M (c d.1) 2 0 (c d.1)),.ak 4 (.M f 2 0 f),eu],.A 61 2 (c d.1) (br.fn d.1),.A 65 2 f (cG.fn (d.2.1.take f))]) (λf=>c d.2.1-f) 0 a ?_ a ?_ a x ?_
 .simp
 .simp
 intro f h;by_cases n:f<c d.2.1
 .have ac:d.2.1.getD f (0,[])∈d.2.1:=J;have j:d.2.1.getD (f:Int).toNat cG.N=d.2.1.getD f (0,[]):=J;refine a4 e [27] a KQ (g.av (f+1) a Q Jj J ?_);omega
 obtain rfl:f=c d.2.1:=x;rw[eB];refine a4 e [-27] a Q (g.aA ?_);refine cu e a M (g.aF (Ov d.2.2 o) [] a (cu e a M (g.cc () [3,4] ?_ (λr l=>absurd l Q))));simp
def QX(d:bP)(s:c d.1<=4000000)(X:∀p∈d.1,c p.2<=4000000)(u:c d.2.1<=4000000)(N:oa d)(o:c d.2.2<=4000000):
  ad q 24 [fg d] [] (.k (.agg [.ak 0 (.M (c d.1) 2 0 (c d.1)),.ak 1 (.M (c d.2.1) 2 0 (c d.2.1)),.ak 2 (.M (c d.2.2) 2 0 (c d.2.2))])) [.A 61 2 (c d.1) (br.fn d.1),.A 65 2 (c d.2.1) (cG.fn d.2.1),.A 104 2 (c d.2.2) (bV.fn d.2.2)]:=by
 refine ad.cS bv func24 rfl rfl rfl λt=>?_;have e:a3 q [(73,y4),(74,y7)]:=.cons It (.cons Ix .nil);refine a4 e [902] a M (g.fp 2 0 61 2 (br.fn []) a a ?_);refine g.fp 2 1 65 2 (cG.fn []) a a ?_;refine cu e a M ?_;refine g.aN 5 (λf=>f<=c d.1) (λf:Nat=>[(1,ba 0 0),(2,ba 1 0),(3,ba 2 0),(9,br.M d.1),(10,S (c d.1)),(11,S f)])
  (λf=>[.cells 27 [.c (.M m 2 (c d.1) (br.fn d.1)),.c (.M m 2 (c d.2.1) (cG.fn d.2.1)),.c (.M m 2 (c d.2.2) (bV.fn d.2.2))],.cells 27 [eu,eu,eu],.cells 27 [.ak 3 (.M f 2 0 f),.ak 4 (.M 0 2 0 0),eu],.A 61 2 f (br.fn (d.1.take f)),.A 65 2 0 (cG.fn [])]) (λf=>c d.1-f) 0 a ?_ a ?_ a x ?_
 .simp
 .simp
 intro f h;by_cases n:f<c d.1
 .have ac:d.1.getD f (0,[])∈d.1:=J;have j:d.1.getD (f:Int).toNat br.N=d.1.getD f (0,[]):=J;refine a4 e [12] a J9 (g.av (f+1) a Q KJ J ?_);omega
 obtain rfl:f=c d.1:=x;rw[eB];refine a4 e [-12] a Q (g.aA ?_);refine cu e a M ?_;refine g.aN 5 (λf=>f<=c d.2.1) (λf:Nat=>[(1,ba 0 0),(2,ba 1 0),(3,ba 2 0),(24,cG.M d.2.1),(25,S (c d.2.1)),(26,S f)])
  (λf=>[.cells 27 [.c (.M m 2 (c d.1) (br.fn d.1)),.c (.M m 2 (c d.2.1) (cG.fn d.2.1)),.c (.M m 2 (c d.2.2) (bV.fn d.2.2))],.cells 27 [eu,eu,eu],.cells 27 [.ak 3 (.M (c d.1) 2 0 (c d.1)),.ak 4 (.M f 2 0 f),eu],.A 61 2 (c d.1) (br.fn d.1),.A 65 2 f (cG.fn (d.2.1.take f))]) (λf=>c d.2.1-f) 0 a ?_ a ?_ a x ?_
 .simp
 .simp
 intro f h;by_cases n:f<c d.2.1
 .have ac:d.2.1.getD f (0,[])∈d.2.1:=J;have j:d.2.1.getD (f:Int).toNat cG.N=d.2.1.getD f (0,[]):=J;refine a4 e [27] a KQ (g.av (f+1) a Q Jj J ?_);omega
 obtain rfl:f=c d.2.1:=x;rw[eB];refine a4 e [-27] a Q (g.aA ?_);refine cu e a M (g.aF (EN d.2.2 o) [] a (cu e a M (g.cc () [3,4,5] ?_ (λr l=>absurd l Q))));simp
def ME{d e:Z}(f:r.op=.call {callee:=.builtin .append,args:=#[d,e],argTypes:=#[59,59]}):h9 R r d e 87 kk:=
 ⟨⟨59,59,Al,Al,f,(bv _ _ a),rfl,(bv _ _ a),rfl⟩,(bv _ _ a),by decide,by decide⟩
def Dy(f:e bq)(h:Nat):∀a,a<h->∀g∈bS.fn f a,lm g=i:=by
 intro a _ g d;have:bS.fn f a=[.int .i64 (f.getD a bS.N).1,.R (f.getD a bS.N).2]:=rfl;rw[this]at d;rcases ef.1 d with rfl|d
 .rfl
 rcases ef.1 d with rfl|d
 .rfl
 grind
abbrev np(a:e bq):Type:={d:dy×e I // fM 2 (c a) (bS.fn a) d.2}
abbrev rK(a:e bq)(d:np a):Y:=.Q (cg 87 2 d.1.1 (c a) d.1.2)
abbrev n4(a:e bq)(d:np a):D:=.val (cT d.1.1 (c a))
abbrev S3:Type:=Nat×dy×Nat×e I
abbrev uu(a:S3):I:=cT a.2.1 a.2.2.1
def nU(f:α->Bool)(d:e α):Int:=match d.findIdx? f with|some a=>a|none=>-1
def RX{d:α->Bool}{a:e α}{g:α}(j:f<c a)(n:d (a.getD f g)=i)(l:∀h,h<f->d (a.getD h g)=m):nU d a=f:=by
 have:a.findIdx? d=b f:=by grind[List.findIdx?_eq_some_iff_getElem]
 rw[nU,this]
def RZ{d:α->Bool}{a:e α}{g:α}(h:∀f,f<c a->d (a.getD f g)=m):nU d a=-1:=by have:a.findIdx? d=k:=xL;rw[nU,this]
def WZ{d a:Nat}{g:e D}(f:¬(d<=y/\y<a)):se d a g es y=es y:=bp f
theorem ni{a:e α}(g:f<c a)(d:α):a.take (f+1)=a.take f++[a.getD f d]:=by grind[List.take_add_one]
def _root_.Go.AM.dO.iN(a:dO α)(d:e α)(f:Nat)(h:α)(g:Nat)(j:g<=c d):b4 g (kq f (a.a1 h) (a.fn d)) (a.fn (d.set f h)):=by intro n l;simp only[kq,dO.fn,hH];grind
abbrev Me:=Int×Int×Int×an
abbrev q_(a:e D):s:=aL (.U a)
abbrev kO(a:e bU):D:=.M m 2 (c a) (br.fn a)
abbrev jX(a:e fE):D:=.M m 2 (c a) (cG.fn a)
abbrev iZ(a:e (Int×Int)):D:=.M m 2 (c a) (bV.fn a)
def m3(d:bP)(a:Me)(e:Nat)(f:a.2.1=e)(g:e<=c d.2.2):V (ib (c d.2.2) (b a.2.1) k):=by show 0<=a.2.1/\a.2.1<=(c d.2.2:Int);omega
def Pj(f e d:Int):ad q 17 [S f,S e,S d] [] (bm (decide (e<=f/\f<=d))) []:=by
 refine ad.E func17 rfl λj=>?_;by_cases h:e<=f
 .by_cases u:f<=d
  .refine a_ [10,14] a cb (g.an a ?_);exact bx
  refine a_ [10,-14] a cb (g.an a ?_);simp;omega
 refine a_ [-10,-14] a cb (g.an a ?_);simp;omega
abbrev oH:bB:=jJ dc dc dc (λe d a=>bm (decide (d<=e/\e<=a))) λ_ _ _=>[]
def qm:bI q 17 oH:=.cJ λe d a _=>Pj e d a
def Ot(d:Nat)(n:d<=4000000):ad q 143 [S d] [] (S (eT d)) []:=by
 refine ad.E func143 rfl λl=>?_;by_cases j:d<1
 .refine a_ [6,9] a cb (g.an a ?_);have:eT d=0:=by simp[eT,j]
  simp[this]
 by_cases h:8<d
 .refine a_ [-6,9] a cb (g.an a ?_);have:eT d=0:=by simp[eT,h]
  simp[this]
 by_cases e:d<=2
 .refine a_ [-6,-9,10] a cb (g.an a ?_);have:eT d=2:=by simp only[eT,bp (show¬(d<1∨8<d) by omega),bF e]
  simp[this]
 by_cases f:d<=4
 .refine a_ [-6,-9,-10,13] a cb (g.an a ?_);have:eT d=4:=by simp only[eT,bp (show¬(d<1∨8<d) by omega),bp e,bF f]
  simp[this]
 refine a_ [-6,-9,-10,-13] a cb (g.an a ?_);have:eT d=8:=by simp only[eT,bp (show¬(d<1∨8<d) by omega),bp e,bp f]
 simp[this]
def Ph(d:e an)(h:an)(r:c d<=4000000):ad q 101 [bD.M d,bC h] [] (bm (d.contains h)) []:=by
 refine ad.E func101 rfl λp=>?_;refine a8 a M (g.aN 0 (λf=>f<=c d/\∀l,l<f->d.getD l []≠h) (λf:Nat=>[(0,bD.M d),(1,bC h),(5,S f)]) (λ_=>[]) (λf=>c d-f) 0 a Q a Q a ⟨by omega,by omega⟩ ?_);rintro f ⟨n,o⟩;by_cases u:f<c d
 .have j:d.getD (f:Int).toNat bD.N=d.getD f []:=J;by_cases s:d.getD f []=h
  .refine a_ [9,17] a ?_ (g.aV (b3.zero a ?_))
   .simp only[V,j];grind
   have:h∈d:=J;simp[this]
  refine a_ [9,-17] a ?_ (g.av (f+1) a ?_ ?_ ?_ ?_)
  .simp only[V,j,a9];grind
  .simp
  .simp
  .grind
  omega
 refine a_ [-9] a cb (g.aA ?_);refine a8 a M (g.an a ?_);have:¬h∈d:=λt=>by grind[List.getElem_of_mem]
 simp[this]
def Oy(d:an)(e:cp d=i):ad q 142 [bC d] [] (S (fG d)) []:=by
 refine ad.E func142 rfl λp=>?_;have j:=e;simp only[cp,ct,bM]at j;refine a8 a M (g.aN 0 (λf=>f<=c d) (λf:Nat=>[(0,bC d),(3,S (fG (d.take f))),(4,S f)]) (λ_=>[]) (λf=>c d-f) 0 a (by simp[fG]) a Q a x ?_);intro f h;by_cases l:f<c d
 .have X:=vz e h;have s:=vz e (f:=f+1) x;have r:=Ea l;have t:=o1 j.2 (d.getD f 0) (Ab l);have n:97<=c9 d f/\c9 d f<=122:=Ct;refine a_ [8] a ?_ (g.av (f+1) a ?_ ?_ ?_ ?_)
  .simp only[V,ja,a9];grind
  .have o:(c9 d f-97) % 256=c9 d f-97:=Int.emod_eq_of_lt x x;exact bH
  .simp
  .grind
  grind
 obtain rfl:f=c d:=x;refine a_ [-8] a Q (g.aA ?_);exact sj
def Vv:bI q 142 (df dT (λa=>S (fG a)) λa=>[cp a=i]):=.a3 λa d=>Oy a d
def P4(e:Int)(d:an)(f:cB e=i)(j:cp d=i):ad q 100 [S e,bC d] [] (S (dF e d)) []:=by
 refine ad.E func100 rfl λr=>?_;have p:a3 q [(142,df dT (λd=>S (fG d)) λd=>[cp d=i])]:=.cons Vv .nil;have h:=f;simp only[cB,ct,bM]at h;have l:=vy j;refine cu p a ?_ (g.an a ?_)
 .have o:0<=fG d*(2*e+1):=Int.mul_nonneg l.1 x;have n:fG d*(2*e+1)<=282429536481*199:=Int.mul_le_mul x x x x;generalize fG d*(2*e+1)=s at o n;simp only[V,a9];grind
 exact bH
def un:bI q 100 (eK dc dT (λa d=>S (dF a d)) λa d=>[cB a=i,cp d=i]):=.bf λa d e=>P4 a d e.1 e.2
def OU(d:e cJ)(h:Int)(s:c d<=4000000):ad q 99 [eS.M d,S h] [] (S (hV d h)) []:=by
 refine ad.E func99 rfl λr=>?_;refine a8 a M (g.aN 0 (λf=>f<=c d/\∀n,n<f->(d.getD n (0,0)).1≠h) (λf:Nat=>[(0,eS.M d),(1,S h),(5,S f)]) (λ_=>[]) (λf=>c d-f) 0 a Q a Q a ⟨by omega,by omega⟩ ?_);rintro f ⟨o,p⟩;by_cases u:f<c d
 .have l:d.getD (f:Int).toNat eS.N=d.getD f (0,0):=J;by_cases t:(d.getD f (0,0)).1=h
  .refine a_ [9,18] a ?_ (g.aV (b3.zero a ?_))
   .simp only[V,l];grind
   have:hV d h=(d.getD f (0,0)).2:=by
    have:d.find? (λj=>j.1==h)=b (d.getD f (0,0)):=by grind[List.find?_eq_some_iff_getElem]
    rw[hV,this]
   simp_all
  refine a_ [9,-18] a ?_ (g.av (f+1) a ?_ ?_ ?_ ?_)
  .simp only[V,l,a9];grind
  .simp
  .simp
  .grind
  omega
 refine a_ [-9] a cb (g.aA ?_);refine a8 a M (g.an a ?_);have:hV d h=0:=by have:d.find? (λj=>j.1==h)=k:=xL;rw[hV,this]
 simp[this]
theorem D9(a:1<=p)(d:p<=8):p<=eT p/\eT p<=8:=Cq
abbrev Do:bB:=df dc (λa=>S (eT a.toNat)) λa=>[0<=a/\a<=4000000]
def Vu:bI q 143 Do:=.a3 λd e=>by
 obtain⟨a,rfl⟩:∃a:Nat,d=a:=⟨d.toNat,by exact ky⟩
 exact Ot a ky
def Qm(d:an)(j:cp d=i):ad q 105 [bC d] [] (bC (eY d)) []:=by
 refine ad.E func105 rfl λn=>?_;have f:a3 q [(143,Do)]:=.cons Vu .nil;have h:=j;simp only[cp,ct,bM]at h;have p:=D9 h.1.1 h.1.2;refine cu f a bx (g.aN 0 (λe=>c d+e<=eT (c d)) (λe:Nat=>[(0,bC (d++aW e 46)),(3,S (eT (c d)))]) (λ_=>[]) (λe=>eT (c d)-e) 0 a Q a Q a x ?_);intro e o;by_cases r:c d+e<eT (c d)
 .refine a4 f [10] a cb (g.av (e+1) a ?_ ?_ ?_ ?_)
  .simp[List.replicate_succ']
  .simp
  .grind
  grind
 have l:eT (c d)-c d=e:=x;refine a4 f [-10] a cb (g.aA ?_);refine cu f a M (g.an a ?_);simp[eY,j,l]
def QU(d:cJ):ad q 102 [.k (.agg [.c (.int .i64 d.1),.c (.int .i64 d.2)])] [] (bm (fr d)) []:=by
 refine ad.E func102 rfl λh=>?_;have f:a3 q [(17,oH)]:=.cons qm .nil;by_cases e:0<=d.1/\d.1<=999999999988
 .by_cases j:1<=d.2/\d.2<=99
  .refine a4 f [6,10] a (by simp[e,j]) (g.an a ?_);have:fr d=i:=by simp[fr,e,j];omega
   simp[this]
  refine a4 f [6,-10] a (by simp[e,j]<;>omega) (g.an a ?_);have:fr d=m:=by simp[fr,e];omega
  simp[this]
 refine a4 f [-6,-10] a cb (g.an a ?_);have:fr d=m:=by simp[fr];omega
 simp[this]
abbrev DX:bB:=df qB (λa=>bm (fr a)) λ_=>[]
def Wc:bI q 102 DX:=.a3 λa _=>QU a
def R0{d:α->Bool}{a:e α}(f:a.any d=i):0<=nU d a:=by unfold nU;grind
theorem RY{d:α->Bool}{a:e α}(f:a.any d=m):nU d a=-1:=by unfold nU;grind
def Pd(d:e (Int×Int))(n:Nat)(j:Int×Int->Bool)(v:∀l,l∈d->ad q n [.k (.agg [.c (.int .i64 l.1),.c (.int .i64 l.2)])] [] (bm (j l)) []):
  ad q 148 [bV.M d,aL (.fn (.func n) [] [])] [] (S (nU j d)) []:=by
 refine ad.E func148 rfl λs=>?_;have y:=s.M 0 a;refine a8 a M (g.b1 (λf=>f<=c d/\∀h,h<f->j (d.getD h (0,0))=m) (λf:Nat=>[(0,bV.M d),(1,aL (.fn (.func n) [] [])),(7,S (c d)),(8,S f)]) (λ_=>[]) (λf=>c d-f) 0 a Q a M ⟨by omega,by omega⟩ ?_);rintro f ⟨u,o⟩;by_cases t:f<c d
 .have p:d.getD f (0,0)∈d:=J;have r:d.getD (f:Int).toNat bV.N=d.getD f (0,0):=J;refine a_ [9] a bx ?_;rw[r];refine g.aF (v _ p) [] a ?_;cases w:j (d.getD f (0,0))with
  |true=>
   refine a_ [16] a Q (g.bD (b3.zero a ?_));simp[RX t w o]
  |false=>
   exact a_ [-16] a bH (g.bI (f+1) a Q a M J x)
 refine a_ [-9] a cb (g.a_ a a ?_);refine a8 a M (g.an a ?_);simp[RZ (λh z=>o h x)]
def O6(d:e (Int×Int))(j:Nat)(f:Int×Int->Bool)(l:∀h,h∈d->ad q j [.k (.agg [.c (.int .i64 h.1),.c (.int .i64 h.2)])] [] (bm (f h)) []):
  ad q 110 [bV.M d,aL (.fn (.func j) [] [])] [] (bm (d.any f)) []:=by
 refine ad.E func110 rfl λo=>?_;refine a8 a M (g.aF (Pd d j f l) [] a ?_);cases n:d.any f with
 |true=>
  exact a_ [8] a (gf (R0 n)) (g.an a)
 |false=>
  exact a_ [-8] a (qJ (by grind[RY])) (g.an a)
end
abbrev x8(f:e a'):Prop:=f.Pairwise λa d=>aK a.1 d.1=i
def Wv{w:e a'}(h:dm w=i):x8 w:=by simp only[dm,ct]at h;have l:=g0.1 h.1;rw[x8,k0];intro f o d g a;rw[ji d,ji g];refine Bg (w:=w) (f:=o) (λp n j=>?_) f a;have:=l p x;simp only[g',ct,hP,gZ]at this;grind
theorem ut{d:e a'}:dm d=i↔(∀h∈d,fi h.1=i/\fa h.2=i)/\x8 d/\d.Pairwise (λo p=>ka o.1 p.1=m)/\c d<=6:=by
 constructor
 .intro g;have v:=Wv g;simp only[dm,ct,bM]at g;have l:=g0.1 g.1;refine⟨λh r=>?_,v,?_,g.2⟩
  .obtain⟨f,a,rfl⟩:=ft r;have:=l f a;simp only[g',ct]at this;grind[ji]
  rw[k0];intro f t a j n;have:=l t j;simp only[g',ct]at this;grind[ji]
 rintro⟨u,w,x,s⟩;simp only[dm,ct,bM];refine⟨g0.2 λf a=>?_,s⟩;have q:=u _ (qI a);rw[ji a]at q;simp only[g',ct,hP,gZ];grind[List.pairwise_iff_getElem,ji]
def Wt{a:e a'}(d:a'->Bool)(f:dm a=i):dm (a.filter d)=i:=by grind[ut]
theorem NL{a:e a'}(f:an)(d:dm a=i):dm (jL a f)=i:=Wt _ d
def Ww{w:e a'}{U A:an}(a:(e9 w U A).2=i):dm (e9 w U A).1=i:=by unfold e9 at a⊢;grind
end R1
def bG.le{u:al P}{w:ar}{args:e s}{v:ι->s}(x:bG u w args h res a6){g:ι->e Prop}(A:∀a,iU (res a) (v a)=b (g a))(B:∀a,V (g a)):bG u w args h v a6:=
 ⟨x.1,λC z q o y j n=>x.2 C z q o y j λa l D r p d f t=>n a l D r p (m6 (A a) (B a) d) f t⟩
namespace R1
variable {q:al R}
structure iB(d:bP):Prop where
 aR:c d.1<=4000000
 df:∀aR∈d.1,c aR.2<=4000000
 bs:c d.2.1<=4000000
 cy:oa d
 bF:c d.2.2<=4000000
end R1
def cS.ew:cS->Nat
 |.nil=>0
 |.aq a _ _ d=>a.ew+d.ew+1
namespace R1
variable {q:al R}
def OT(j:cS)(d:Int):ad q 119 [aL (ev j),S d] [] (S (j.find d)) []:=by
 refine ad.E func119 rfl λt=>?_;refine a8 a M (g.loop (λf:cS=>f.find d=j.find d) (λf=>[(0,aL (ev f)),(1,S d)]) (λ_=>[]) (λf=>f.ew) j a (.cons a (et a Q)) a ?_);intro f e;cases f with
 |nil=>
  refine a8 a M (g.aI (rH a underlying174 a a a) a a ?_);refine a_ [-7,-15] a Q (g.a_ a a ?_);refine a8 a M (g.aI (rH a underlying174 a a a) a a ?_);refine a8 a M (g.an a ?_);exact bH
 |aq l h o n=>
  have s:(cS.aq l h o n).find d=if d=h then o else if d<h then l.find d else n.find d:=rfl;rw[s]at e;refine a8 a M (g.aI (wY a underlying174 a a a) a a ?_);by_cases r:d=h
  .subst r;rw[bF a]at e;refine a_ [7,-15] a Q (g.a_ a a ?_);refine a8 a M (g.aI (wY a underlying174 a a a) a a ?_);refine a8 a M (g.an a ?_);exact bx
  rw[bp r]at e;by_cases p:d<h
  .rw[bF p]at e;cases l<;>exact a_ [7,15,22] rfl bx ⟨_,e,by simp only[cS.ew];omega,.cons rfl (et rfl Q),rfl⟩
  rw[bp p]at e;cases n<;>exact a_ [7,15,-22] rfl bx ⟨_,e,by simp only[cS.ew];omega,.cons rfl (et rfl Q),rfl⟩
end R1
section
namespace R1
variable {q:al R}
def tV(g:aZ [.Q H] d):∃L e,d.m=[L]/\H L.v e/\(∀(f:Nat)(h:Obj),e f=b h->d.a.heap[f]?=b h)/\(∀f,f∈L.V↔(e f).isSome=i)/\∀f∈L.V,f<d.a.heap.size:=by
 have l:=g.len
 match u:d.m,l with
 |[L],_=>
  obtain⟨e,o,n,p,q⟩:=g.box 0 _ L rfl (by rw[u];rfl);exact⟨L,e,a,o,n,p,λf j=>g.lt L (by rw[u];simp) f j⟩
def GQ{fN:I->(Nat->Option Obj)->Prop}(f:aZ [.Q H] d){L:Loc}(h:d.m=[L])(q:fN L.v eb)(o:∀(g:Nat)(j:Obj),eb g=b j->d.a.heap[g]?=b j)(r:∀g,g∈L.V↔(eb g).isSome=i):
  aZ [.Q fN] d/\cA [.Q H] d [.Q fN] d:=by
 refine⟨⟨f.mem,f.len,?_,f.aL,f.lt,f.own⟩,⟨bE _,λ_ _ _=>rfl,λ_ _ _ f=>f,λ_ _ _ _=>rfl,λL f g s=>.inr ⟨L,f,s⟩,?_,a,a,a,a⟩⟩
 .intro l n u ao e;cases l with
  |zero=>
   simp at ao;subst ao;obtain⟨_,_,_,_,p⟩:=f.box 0 _ u rfl e;rw[h]at e;cases e;exact⟨eb,q,o,r,p⟩
  |succ l=>simp at ao
 intro l n L ao h;cases l with
 |zero=>simp at ao;subst ao;exact⟨_,L,a,h,a⟩
 |succ l=>simp at ao
def H4{e:Act}(l:bQ B [.Q H] d F e){L:Loc}(h:d.m=[L])(a:Nat)(n:look F a=.k (.S (.aD 0))):e.tmps.getD a E=L.v:=by
 have:=l.aC a;rw[n]at this;obtain⟨_,g,f,j,_⟩:=(show ck _ d _ (.aD 0)from this)
 rw[h]at f;cases f;exact j
def uh{e:Act}(l:bQ B h d F e)(a:Nat){f:an}(g:look F a=bC f):e.tmps.getD a E=ca f:=by
 have:=l.aC a;rw[g]at this;have:=b2 this;generalize e.tmps.getD a E=n at this;cases this with
 |R j _=>exact Db j
def mB(j:e a')(h:an)(l:Option Nat):I->(Nat->Option Obj)->Prop:=λn g=>∃r0 d f a,hJ j n g r0 d f a/\(a h).map (·.1)=l
def Sd{l h:e a'}(s:aZ [.Q H] d){L:Loc}(q:d.m=[L])(t:∀(f:Nat)(j:Obj),eb f=b j->d.a.heap[f]?=b j)(r:∀f,f∈L.V↔(eb f).isSome=i){g:Nat}{w j:Obj}(y:eb g=b w)(A:gd h L.v (λf=>if f=g then b j else eb f)):
  aZ [.Q (gd h)] {d with a:={d.a with heap:=d.a.heap.setIfInBounds g j}}/\cA [.Q H] d [.Q (gd h)] {d with a:={d.a with heap:=d.a.heap.setIfInBounds g j}}:=by
 have _:=l;have p:g∈L.V:=(r g).2 (by rw[y];rfl);have u:g<d.a.heap.size:=s.lt L (by rw[q];simp) g p
 have:=s.br (l:=0) (H:=H) (fN:=gd h) (L:=L) (b7:=L) (a5:={d.a with heap:=d.a.heap.setIfInBounds g j}) rfl (by rw[q];rfl) rfl Q (λf _ n=>by
  show(d.a.heap.setIfInBounds g j)[f]?=_;rw[nz (by rintro rfl;exact n p)]) (λf n=>.inl n)
  ⟨_,A,λf z n=>by
   show(d.a.heap.setIfInBounds g j)[f]?=_;by_cases o:f=g
   .subst o;simp only[cN]at n;cases n;rw[pJ u]
   .simp only[o,cr]at n;rw[nz (λv=>o v.symm)];exact t f z n,λf=>by
   by_cases o:f=g
   .subst o;simp[p]
   .simp only[o,cr];exact r f⟩ a a a
 have x:d.m.set 0 L=d.m:=by rw[q];rfl
 rw[x]at this;exact this
def Br{e:Act}(j:bQ B h d F e)(a:Nat){f:I}(g:look F a=ce f):e.tmps.getD a E=f:=by have:=j.aC a;rw[g]at this;exact Rd.aM this
def wo{l:e a'}{U:an}{w x:Nat}{N:Option Nat}(t:r.op=.lookup 68 (.tmp w) (.tmp x) m)(G:r.dst=N)(Y:r.guard=k)(ae:eU B r.dst=i)(ad:look F w=.k (.S (.aD 0)))(Z:look F x=bC (eV U))(z:Option Nat->Prop)(ab:∀T n,H T n->∃r0 h j f,hJ l T n r0 h j f/\z ((f (eV U)).map (·.1)))(ah:∀d,z d->g q B a7 (.ar all bw::ax) .normal (fy N (ce (.map d)) F) [.Q (mB l (eV U) d)]):g q B a7 (.ar all (r::bw)::ax) .normal F [.Q H]:=by
 subst G;refine g.bO (ι:={d:Option Nat // z d}) (λd=>ce (.map d.1)) (λd=>[.Q (mB l (eV U) d.1)]) Y ae ?_ λd=>ah d.1 d.2;intro v K s I;obtain⟨L,n,C,aj,M,O,ak⟩:=tV I;obtain⟨r0,h,j,f,p,aG⟩:=ab _ _ aj;have A:K.eval (.tmp w)=.map (b r0):=(H4 s C w ad).trans p.val;have Q:K.eval (.tmp x)=ca (eV U):=uh s x Z;have S:=M _ _ p.cv;have ag:∃d:Option Nat,(f (eV U)).map (·.1)=d/\(Instr.lookup 68 (.map (b r0)) (ca (eV U)) m).run R v.a=.ok (.map d) v.a/\(Instr.lookup 68 (.map (b r0)) (ca (eV U)) m).events R v.a #[]=#[⟨.obj r0,m,m⟩]:=by
  rcases p.find U with⟨o,X,_⟩|⟨ai,es,u,y,o,X,_⟩
  .have:=wq (ok:=m) underlying68 underlying9 S X (λ_=>Tryz.zeroValue140 v.a);exact⟨k,by rw[o];rfl,this⟩
  have:=wq (ok:=m) (eM:=E) underlying68 underlying9 S X (λaf=>by cases af);exact⟨b ai,by rw[o];rfl,this⟩
 obtain⟨d,J,D,V⟩:=ag;obtain⟨aq,P⟩:=GQ I C (fN:=mB l (eV U) d) ⟨r0,h,j,f,p,J⟩ M O;refine⟨⟨d,by rw[<-J];exact aG⟩,_,v,.map d,?_,.inl a,Rd.val a,aq,P,?_⟩
 .simp only[W,t,A,Q,cn,D,cM,dv]
 simp only[W,t,A,Q,aE,D,V,aH,aT];exact .S (jf (L:=L) (by rw[C];simp) ((O r0).2 (by rw[p.cv];rfl)))
set_option maxRecDepth 20000 in
def OQ(l:e a')(U:an):ad q 84 [.k (.S (.aD 0)),bC U] [.Q (gd l)] (Iv ((hi l U).getD []) (hi l U).isSome) [.Q (gd l)]:=by
 refine ad.E func84 rfl λaj=>?_;refine cu ie a M (wo (l:=l) (U:=U) a a a a a a (λ_=>True) (λal z ⟨r0,B,y,C,A⟩=>⟨r0,B,y,C,A,M⟩) λv _=>?_);refine w0 ie [] 1 a M (g.bO (ι:=Unit) (λ_=>Iv ((hi l U).getD []) (hi l U).isSome) (λ_=>[.Q (gd l)]) a a ?_ λ_=>?_)
 rotate_left
 .refine a8 a M (g.aQ [0] a Q ?_);intro Z ai;have:Z=0:=by simpa using ai
  subst this;rfl
 intro d X O T;obtain⟨L,z,K,⟨r0,B,y,C,w,n⟩,Y,I,P⟩:=tV T;have J:X.eval (.tmp 12)=.map v:=Br O 12 a;have s:X.eval (.tmp 13)=ca U:=uh O 13 a;obtain⟨ag,af⟩:=GQ T K (fN:=gd l) ⟨r0,B,y,C,w⟩ Y I;have S:(zeroValue 9).run R d.a=.ok (ca []) d.a:=Tryz.zeroValue9 d.a;have mv:∃j t,(Instr.lookup 140 (.map v) (ca U) i).run R d.a=.ok (.tuple #[ca j,.bool t]) d.a/\cR d ((Instr.lookup 140 (.map v) (ca U) i).events R d.a #[])/\j=(hi l U).getD []/\t=(hi l U).isSome/\c j<=9223372036854775807:=by
  rcases w.find U with⟨h,H,f⟩|⟨x,es,u,Z,h,H,G⟩
  .rw[h]at n;have n:v=k:=n.symm;subst n;obtain⟨r,p⟩:=Sx (ok:=i) underlying140 underlying9 (N:=.string) (o:=ca U) M S;exact⟨[],m,r,cR.of_eq p .nil,by rw[f];rfl,by rw[f];rfl,by simp⟩
  rw[h]at n;have n:v=b x:=n.symm;subst n;have ab:=(w.cI _ _ _ _ h).1;have V:d.a.heap[x]?=b (.map es u):=Y _ _ ab;have D:hD d ⟨.obj x,m,m⟩:=jf (L:=L) (by rw[K];simp) ((I x).2 (by rw[ab];rfl));rcases G with⟨F,f⟩|⟨ak,j,F,f⟩
  .obtain⟨r,p⟩:=wq (ok:=i) underlying140 underlying9 V F (λ_=>S);exact⟨[],m,r,cR.of_eq p (.S D),by rw[f];rfl,by rw[f];rfl,by simp⟩
  obtain⟨r,p⟩:=wq (ok:=i) (eM:=E) underlying140 underlying9 V F (λA=>by cases A);refine⟨j,i,r,cR.of_eq p (.S D),by rw[f];rfl,by rw[f];rfl,?_⟩;have:=(w.len U j (tv f)).2;omega
 obtain⟨j,t,r,p,ah,aq,ae⟩:=mv;refine⟨(),_,d,.tuple #[ca j,.bool t],?_,.inl a,?_,ag,af,?_⟩
 .simp only[W,J,s,cn,r,cM,dv]
 .rw[<-ah,<-aq];exact⟨[ca j,.bool t],a,Rd.R a ae,Rd.bool,M⟩
 exact tp p (by simp only[W,J,s])
def HK{a:Option Nat}(d:Nat):(aM (d+1) 140 (.map a) (.map k)).run R K=.ok a.isNone K/\(aM (d+1) 140 (.map a) (.map k)).events R K #[]=#[]:=by have e:(underlying 140).run R K=.ok (.map 9 9) K:=Tryz.runUnderlying140 K;cases a<;>constructor<;>simp[aM,e]
set_option maxRecDepth 20000 in
def Sl{e:Z}{a2:Option Nat}{j:Z}(g:r.op=.binOp .eql 140 e j ty)(s:η e=ce (.map a2))(t:j=.const (.map k))(w:∀d:Z->I,d j=.map k->True):
  ∀a (d:Z->I),d j=.map k->(∀o,bo h a (d o) (η o))->(W d r).run R a.a=.ok (.value (.bool a2.isNone)) a.a/\(W d r).events R a.a #[]=#[]:=by
 intro a d n q;have f:=q e;rw[s]at f;have f:d e=.map a2:=Rd.aM f;have u:(underlying 140).run R a.a=.ok (.map 9 9) a.a:=Tryz.runUnderlying140 a.a;have l:(Op.equal 140 (.map a2) (.map k)).run R a.a=.ok a2.isNone a.a:=by exact(HK 9999).1
 have p:(Op.equal 140 (.map a2) (.map k)).events R a.a #[]=#[]:=by exact(HK 9999).2
 have v:(eqGuard .eql 140 e j (.map a2) (.map k)).events R a.a #[]=#[]:=by cases a2<;>rfl
 constructor
 .simp only[W,g,n,f,cn,eqGuard_at_map,dv,cM,Go.binOp,l]
 simp only[W,g,n,f,cn,aE,eqGuard_at_map,dv,aT,cM,aH,Go.binOp,l,p]
set_option maxRecDepth 20000 in
def Hu{l:e a'}{h A:an}(aj:c h<=9223372036854775807)(ar:c A<=9223372036854775807){j p t2 t3:Nat}(w:r.op=.mapUpdate 140 (.tmp p) (.tmp t2) (.tmp t3))(P:r.dst=k)(s:r.guard=k)(U:look F p=ce (.map (b j)))(V:look F t2=bC h)(Y:look F t3=bC A)(aM:g q B a7 (.ar all bw::ax) .normal F [.Q (gd (fw l (h,A)))]):g q B a7 (.ar all (r::bw)::ax) .normal F [.Q (mB l (eV h) (b j))]:=by
 refine g.bO (ι:=Unit) (λ_=>.any) (λ_=>[.Q (gd (fw l (h,A)))]) s (by rw[P];rfl) ?_ λ_=>by rw[P];exact aM
 intro z K H ak;obtain⟨L,N,I,⟨r0,C,v,aC,x,D⟩,aB,aF,aA⟩:=tV ak;have au:K.eval (.tmp p)=.map (b j):=Br H p U;have ai:K.eval (.tmp t2)=ca h:=uh H t2 V;have aw:K.eval (.tmp t3)=ca A:=uh H t3 Y;rcases x.find h with⟨d,_⟩|⟨af,es,u,y,d,az,aJ⟩
 .rw[d]at D;cases D
 rw[d]at D;obtain rfl:j=af:=by simpa using D.symm
 have ad:=(x.cI _ _ _ _ d).1;have ag:=(x.cI _ _ _ _ d).2.1;have al:=aB _ _ ad;have upd:∃n t,(Instr.mapUpdate 140 (.map (b j)) (ca h) (ca A)).run R z.a=.ok () {z.a with heap:=z.a.heap.setIfInBounds j (.map n t)}/\(Instr.mapUpdate 140 (.map (b j)) (ca h) (ca A)).events R z.a #[]=#[⟨.obj j,m,m⟩,⟨.obj j,i,m⟩]/\gd (fw l (h,A)) L.v (λay=>if ay=j then b (.map n t)else N ay):=by
  rcases aJ with⟨X,s⟩|⟨aq,aO,X,s⟩
  .obtain⟨G,T⟩:=BS (A:=ca A) underlying140 underlying9 al X;refine⟨_,_,G,T,r0,C,v,_,x.hq d aj ar (MapKept.stamped_push ag (X.b0 a)) ?_ ?_ ?_⟩
   .intro o f;rw[sK,fu]at f;rcases f with f|f
    .exact .inr ⟨f,X.b0 a o f⟩
    simp at f;subst f;exact .inl ⟨a,a⟩
   .exact Lw
   intro o f _;rw[sK];exact yg _ f
  obtain⟨O,k1,J,aN⟩:=X.eD aq _ rfl;have ah:=UW ag k1 (ca A);rw[J]at ah;have ae:∀lf,lf∈(es.modify aq λo=>{key:=ca h,val:=ca A,born:=o.born}).toList↔lf={key:=ca h,val:=ca A,born:=O.born}∨(lf∈es.toList/\lf.key≠ca h):=by intro lf;have:=SH (ac:=λo=>{key:=ca h,val:=ca A,born:=o.born}) k1 (lf:=lf) ag.2.2 (by rw[J];rfl);rw[this,J];rfl
  obtain⟨G,T⟩:=BS (A:=ca A) underlying140 underlying9 al X;refine⟨_,_,G,T,r0,C,v,_,x.hq d aj ar ah ?_ ?_ ?_⟩
  .intro o f;rcases(ae o).1 f with rfl|aL
   .exact .inl ⟨a,a⟩
   exact .inr aL
  .exact⟨_,(ae _).2 (.inl a),a,a⟩
  intro o f ab;exact(ae o).2 (.inr ⟨f,ab⟩)
 obtain⟨n,t,ao,aK,Z⟩:=upd;obtain⟨Q,S⟩:=Sd (l:=l) ak I aB aF ad Z;have aG:j∈L.V:=(aF j).2 (by rw[ad];rfl);refine⟨(),.skip,_,E,?_,.inr ⟨a,a⟩,M,Q,S,?_⟩
 .simp only[W,w,au,ai,aw,cn,ao,cM,dv]
 simp only[W,w,au,ai,aw,aE,ao,aK,aH,aT];exact .eB (jf (L:=L) (by rw[I];simp) aG) (jf (L:=L) (by rw[I];simp) aG)
def sx(o:e a')(n:an)(l:Nat):I->(Nat->Option Obj)->Prop:=λp h=>∃r0 f g d a,hJ o p a r0 f g d/\d n=k/\a l=k/\h=λj=>if j=l then b (.map #[] 0)else a j
set_option maxRecDepth 20000 in
def SO{l:e a'}{ac:an}{x:Option Nat}(o:r.op=.makeMap 140 k)(C:r.dst=x)(I:r.guard=k)(s:eU B r.dst=i)(O:∀n,g q B a7 (.ar all bw::ax) .normal (fy x (ce (.map (b n))) F) [.Q (sx l ac n)]):g q B a7 (.ar all (r::bw)::ax) .normal F [.Q (mB l ac k)]:=by
 subst C;refine g.bO (ι:=Nat) (λn=>ce (.map (b n))) (λn=>[.Q (sx l ac n)]) I s ?_ O;intro d U G A;obtain⟨L,j,D,⟨r0,S,J,v,R,E⟩,M,t,y⟩:=tV A;have N:v ac=k:=by cases u:v ac with
  |none=>rfl
  |some V=>rw[u]at E;cases E
 let w1:af:={d.a with heap:=d.a.heap.push (.map #[] 0)}
 have Q:j d.a.heap.size=k:=by
  cases K:j d.a.heap.size with
  |none=>rfl
  |some r=>have:=y _ ((t _).2 (by rw[K];rfl));omega
 obtain⟨w,t2⟩:=A.br (l:=0) (H:=mB l ac k) (fN:=sx l ac d.a.heap.size) (L:=L) (b7:=⟨L.v,d.a.heap.size::L.V⟩) (a5:=w1) rfl (by rw[D];rfl) rfl (by simp[w1])
  (λh f T=>by show(d.a.heap.push _)[h]?=_;rw[u0 f,gW f])
  (λh f=>by
   rcases ef.1 f with rfl|f
   .exact .inr ⟨bE _,by simp[w1]⟩
   .exact .inl f)
  ⟨_,⟨r0,S,J,v,j,R,N,Q,rfl⟩,λh r f=>by
   by_cases p:h=d.a.heap.size
   .subst p;simp only[cN]at f;cases f;show(d.a.heap.push _)[d.a.heap.size]?=_;simp
   .simp only[p,cr]at f;have z:=y h ((t h).2 (by rw[f];rfl));show(d.a.heap.push _)[h]?=_;rw[u0 z,<-M h r f,gW z],λh=>by
   by_cases p:h=d.a.heap.size
   .subst p;simp
   .simp only[p,cr,ef,false_or];exact t h⟩ a a a
 refine⟨d.a.heap.size,.value (.map (b d.a.heap.size)),_,.map (b d.a.heap.size),?_,.inl a,Rd.val a,w,t2,?_⟩
 .simp[W,o,Instr.makeMap,run_newObj,w1]
 simp[W,o,Instr.makeMap];exact .nil
set_option maxRecDepth 20000 in
def TN{l:e a'}{ac:an}{d n t2 t3:Nat}(w:r.op=.mapUpdate 68 (.tmp n) (.tmp t2) (.tmp t3))(aq:r.dst=k)(T:r.guard=k)(I:look F n=.k (.S (.aD 0)))(N:look F t2=bC ac)(O:look F t3=ce (.map (b d)))(aG:g q B a7 (.ar all bw::ax) .normal F [.Q (mB l ac (b d))]):g q B a7 (.ar all (r::bw)::ax) .normal F [.Q (sx l ac d)]:=by
 refine g.bO (ι:=Unit) (λ_=>.any) (λ_=>[.Q (mB l ac (b d))]) T (by rw[aq];rfl) ?_ λ_=>by rw[aq];exact aG
 intro z K J ah;obtain⟨L,p,y,⟨r0,u,h,al,P,t,ar,U,C⟩,ao,aw,s⟩:=tV ah;have aj:K.eval (.tmp n)=.map (b r0):=(H4 J y n I).trans t.val;have ae:K.eval (.tmp t2)=ca ac:=uh J t2 N;have ak:K.eval (.tmp t3)=.map (b d):=Br J t3 O;have ay:r0≠d:=by rintro rfl;rw[t.cv]at U;cases U
 have au:p r0=b (.map u h):=by rw[C];simp only[ay,cr];exact t.cv
 have aA:=ao _ _ au;have v:r0∈L.V:=(aw r0).2 (by rw[au];rfl);have aM:=s r0 v;obtain⟨ai,Z⟩:=z' (es:=u) ⟨ac.toArray⟩ (λf S=>by obtain⟨ac,_,_,_,I,_⟩:=t.dr f S;exact⟨_,I⟩);have az:ai=k:=by
  cases ai with
  |none=>rfl
  |some x=>
   obtain⟨f,X,Y,aK⟩:=Z.eD x.1 x.2 rfl;obtain⟨aC,aL,dU,aB,k1,aJ,ad⟩:=t.dr f (by rw[sI];exact pK X);have:aC=ac:=s8 (k1.symm.trans Y);rw[this,ar]at ad;cases ad
 subst az;obtain⟨af,ab⟩:=BS (A:=.map (b d)) underlying68 underlying9 aA Z;have ag:=t.js ar U (Z.b0 a);have R:mB l ac (b d) L.v (λj=>if j=r0 then b (.map (u.push ⟨ca ac,.map (b d),h⟩) (h+1))else p j):=by
  have f:(λj=>if j=r0 then b (.map (u.push ⟨ca ac,.map (b d),h⟩) (h+1))else p j)=(λj=>if j=r0 then b (Obj.map (u.push {key:=ca ac,val:=.map (b d),born:=h}) (h+1))else if j=d then b (.map #[] 0)else P j):=by funext j;rw[C]
  rw[<-f]at ag;exact⟨r0,_,_,_,ag,by simp⟩
 obtain⟨D,G⟩:=ah.br (l:=0) (H:=sx l ac d) (fN:=mB l ac (b d)) (L:=L) (b7:=L) (a5:={z.a with heap:=z.a.heap.setIfInBounds r0 (.map (u.push ⟨ca ac,.map (b d),h⟩) (h+1))}) rfl (by rw[y];rfl) rfl Q
  (λj _ o=>by show(z.a.heap.setIfInBounds r0 _)[j]?=_;rw[nz (by rintro rfl;exact o v)]) (λj o=>.inl o)
  ⟨_,R,λj V o=>by
   show(z.a.heap.setIfInBounds r0 _)[j]?=_;by_cases f:j=r0
   .subst f;simp only[cN]at o;cases o;rw[pJ aM]
   .simp only[f,cr]at o;rw[nz (λaF=>f aF.symm)];exact ao j V o,λj=>by
   by_cases f:j=r0
   .subst f;simp[v]
   .simp only[f,cr];exact aw j⟩ a a a
 refine⟨(),.skip,_,E,?_,.inr ⟨a,a⟩,M,D,G,?_⟩
 .simp only[W,w,aj,ae,ak,cn,show ca ac=Value.string ⟨ac.toArray⟩from a,af,cM,dv]
 simp only[W,w,aj,ae,ak,aE,show ca ac=Value.string ⟨ac.toArray⟩from a,af,ab,aH,aT];exact .eB (jf (L:=L) (by rw[y];simp) v) (jf (L:=L) (by rw[y];simp) v)
def N5{j:Nat}{a2:Option Nat}{e:Option Nat}(d:r.op=.binOp .eql 140 (.tmp j) (.const (.map k)) ty)(n:r.dst=e)(u:r.guard=k)(x:eU B r.dst=i)(v:look F j=ce (.map a2))(w:g q B a7 (.ar all bw::ax) .normal (fy e (bm a2.isNone) F) h):g q B a7 (.ar all (r::bw)::ax) .normal F h:=by subst n;refine g.bO (ι:=Unit) (λ_=>bm a2.isNone) (λ_=>h) u x ?_ λ_=>w;intro f l o s;obtain⟨t,p⟩:=Sl (η:=bA F) (h:=h) (a2:=a2) d v rfl (λ_ _=>trivial) f l.eval rfl (eO o);exact⟨(),_,f,_,t,.inl a,Rd.bool,s,.refl _ _,cR.of_eq p .nil⟩
set_option maxRecDepth 20000 in
def ER(l:e a')(U s:an)(t:c U<=9223372036854775807)(u:c s<=9223372036854775807):ad q 31 [.k (.S (.aD 0)),bC U,bC s] [.Q (gd l)] (.C []) [.Q (gd (fw l (U,s)))]:=by
 refine ad.E func31 rfl λw=>?_;refine cu ie a M (wo (l:=l) (U:=U) a a a a a a (λ_=>True) (λv h ⟨r0,g,j,f,n⟩=>⟨r0,g,j,f,n,M⟩) λa2 _=>?_);refine N5 (a2:=a2) a a a a a ?_;cases a2 with
 |some r=>
  refine cu ie a M (wo (l:=l) (U:=U) a a a a a a (λa2=>a2=b r) (λv h ⟨r0,g,j,f,n,d⟩=>⟨r0,g,j,f,n,d⟩) λa2 d=>?_);subst d;refine w0 ie [] 2 a M (Hu t u a a a a a a ?_);refine cu ie a M (b3.b_ [0] a Q a a a ?_);intro p o;have:p=0:=by simpa using o
  subst this;rfl
 |none=>
  refine cu ie a M (SO (l:=l) (ac:=eV U) a a a a λr=>?_);refine TN (l:=l) (ac:=eV U) a a a a a a ?_;refine cu ie a M (wo (l:=l) (U:=U) a a a a a a (λa2=>a2=b r) (λv h ⟨r0,g,j,f,n,d⟩=>⟨r0,g,j,f,n,d⟩) λa2 d=>?_);subst d;refine w0 ie [] 2 a M (Hu t u a a a a a a ?_);refine cu ie a M (b3.b_ [0] a Q a a a ?_);intro p o;have:p=0:=by simpa using o
  subst this;rfl
end R1
end
namespace R1
section
variable {q:al R}
def hJ.empty(d:Nat):hJ [] (.map (b d)) (λe=>if e=d then b (.map #[] 0)else k) d #[] 0 (λ_=>k):=by
 refine⟨a,bF a,MapKept.stamped_empty _,by simp,by simp,by simp,by simp,by simp,by simp,?_,List.Pairwise.nil,by simp⟩;intro e h g;by_cases f:e=d
 .exact .inl f
 simp[f]at g
def SS(g:aZ [] d):aZ [.Q (gd [])] ⟨d.m++[⟨.map (b d.a.heap.size),[d.a.heap.size]⟩],d.n,{d.a with heap:=d.a.heap.push (.map #[] 0)},d.own⟩ /\
  cA [] d [.Q (gd [])] ⟨d.m++[⟨.map (b d.a.heap.size),[d.a.heap.size]⟩],d.n,{d.a with heap:=d.a.heap.push (.map #[] 0)},d.own⟩:=by
 obtain⟨q,p⟩:=g.cF (b0:=d.n) (a5:={d.a with heap:=d.a.heap.push (.map #[] 0)}) Q (λe f=>by show(d.a.heap.push _)[e]?=_;rw[u0 f,gW f]) (λ_ _ _=>rfl) (λe f n r j=>by have:=g.block j;omega) rfl rfl rfl;have o:({d.a with heap:=d.a.heap.push (.map #[] 0)}:af).heap[d.a.heap.size]?=b (.map #[] 0):=Q
 exact q.bL (bR:=.Q (gd [])) (L:=⟨.map (b d.a.heap.size),[d.a.heap.size]⟩) p a g ⟨λe=>if e=d.a.heap.size then b (.map #[] 0)else k,⟨_,_,_,_,hJ.empty _⟩,λe n l=>by
  by_cases h:e=d.a.heap.size
  .subst h;simp only[cN]at l;cases l;exact o
  .simp[h]at l,λe=>by
  by_cases h:e=d.a.heap.size<;>simp[h],λe f n=>by
  simp at f;subst f;cases j:d.n d.a.heap.size n with
  |none=>rfl
  |some r=>have:=g.block j;omega⟩ (λe f=>by simp at f;subst f;simp)
def nD(a:e a'):e a':=a.foldl fw []
def Mr{a:e a'}(d:f<c a):nD (a.take (f+1))=fw (nD (a.take f)) (b1 a f,ga a f):=by rw[qM,bu d,ji d];simp[nD]
set_option maxRecDepth 20000 in
def OY(h:e a')(l:∀f,f<c h->c (b1 h f)<=9223372036854775807/\c (ga h f)<=9223372036854775807):ad q 30 [bf.M h] [] (.k (.S (.aD 0))) [.Q (gd (nD h))]:=by
 refine ad.E func30 rfl λn=>?_;have y:=n.M 0 a;refine cu ie a M (g.bO (ι:=Unit) (λ_=>.k (.S (.aD 0))) (λ_=>[.Q (gd [])]) a a ?_ λ_=>?_)
 .intro d w p u;obtain⟨s,o⟩:=SS u;have v:d.m=[]:=j5 u.len;refine⟨(),.value (.map (b d.a.heap.size)),_,.map (b d.a.heap.size),?_,.inl a,?_,s,o,?_⟩
  .simp[W,Instr.makeMap,run_newObj]
  .exact⟨S9,⟨.map (b d.a.heap.size),[d.a.heap.size]⟩,by simp[v],a,a⟩
  simp[W,Instr.makeMap];exact .nil
 refine cu ie a M (g.aN 1 (λf=>f<=c h) (λf:Nat=>[(7,bf.M h),(8,S (c h)),(9,S f),(3,.k (.S (.aD 0)))]) (λf=>[.Q (gd (nD (h.take f)))]) (λf=>c h-f) 0 a Q a ?_ a x ?_)
 .simp[nD]
 intro f r;by_cases j:f<c h
 .refine bs ie [10] a ?_ ?_
  .simp[-av,j]
  refine g.aF (ER (nD (h.take f)) (b1 h f) (ga h f) (l f j).1 (l f j).2) [0] a (c0 ie a sm (g.av (f+1) a Q ?_ ?_ ?_))
  .rw[Mr j];simp
  .omega
  omega
 have:f=c h:=x;subst this;rw[eB];refine a4 ie [-10] a Q (g.aA ?_);refine cu ie a M (g.aQ [0] a Q ?_);intro z t;simp at t
end
def F8:∀{f:e a'}{a:a'},(∀d∈f,aK d.1 a.1=i)->fw f a=f++[a]
 |[],a,_=>rfl
 |d::n,a,h=>by have g:=h d iH;simp only[fw];rw[bp (qV g),bp (by rw[qT g];simp),F8 (λl j=>h l (k2 _ j))];rfl
def Fy:∀(g a:e a'),nt (a++g)->g.foldl fw a=a++g
 |[],a,_=>by simp
 |d::l,a,n=>by have h:∀f∈a,aK f.1 d.1=i:=λf j=>(pz.1 n).2.2 f j d iH;rw[hx,F8 h,Fy l (a++[d]) so];simp
def Mq{a:e a'}(n:nt a):nD a=a:=by have:=Fy a [] so;simpa[nD]using this
def BO{w:e a'}(h:dm w=i):nt w:=by simp only[dm,ct]at h;have l:=g0.1 h.1;rw[nt,k0];intro f o d g a;rw[ji d,ji g];refine Bg (w:=w) (f:=o) (λp n j=>?_) f a;have:=l p x;simp only[g',ct,hP,gZ]at this;exact this.1.2.resolve_left x
section
variable {q:al R}
def Wu{d:e a'}(h:dm d=i):∀a,a<c d->c (b1 d a)<=9223372036854775807/\c (ga d a)<=9223372036854775807:=by intro a f;simp only[dm,ct]at h;have:=g0.1 h.1 a f;simp only[g',ct]at this;have g:=this.1.1.1;have j:=this.1.1.2;rw[<-A2]at g;have l:=A1 g;simp only[fa,ct,bM]at j;omega
end
def A_(a:a'):∀(g:e a')(O:e a'),g.foldl (h3 a) (O,i)=(O++g.filter (λd=>!(d.1==a.1)),i)
 |[],O=>by simp
 |d::j,O=>by
  have h:h3 a (O,i) d=(O++(if d.1=a.1 then[]else[d]),i):=by unfold h3 jt o7;by_cases f:d.1=a.1<;>simp[f]
  rw[hx,h,A_ a j];by_cases f:d.1=a.1<;>simp[f]
def Ht(a:a'):∀(l:e a')(O:e a'),nt l->(if(l.foldl (h3 a) (O,m)).2=i then(l.foldl (h3 a) (O,m)).1 else(l.foldl (h3 a) (O,m)).1++[a])=O++fw l a
 |[],O,_=>by simp[fw]
 |f::o,O,u=>by
  have r:=ia.1 u;cases g:aK f.1 a.1 with
  |true=>
   have q:=qV g;have h:h3 a (O,m) f=(O++[f],m):=by unfold h3 jt o7;simp[g,q]
   rw[hx,h,Ht a o (O++[f]) r.2];simp[fw,q,qT g]
  |false=>
   have s:o.filter (λp=>!(p.1==a.1))=o:=by
    apply u5.2;intro p v;have n:=r.1 p v;simp only[iG,gn,e3];intro h;rcases qW f.1 a.1 with d|d|d
    .rw[d]at g;cases g
    .rw[d,h,pS]at n;cases n
    rw[h]at n;rw[qT n]at d;cases d
   by_cases j:f.1=a.1
   .have h:h3 a (O,m) f=(O++[a],i):=by unfold h3 jt o7;simp[j,pS]
    rw[hx,h,A_,s];simp[fw,j]
   have h:h3 a (O,m) f=(O++[a]++[f],i):=by unfold h3 jt o7;simp[g,j]
   have t:aK a.1 f.1=i:=by
    rcases qW f.1 a.1 with d|d|d
    .rw[d]at g;cases g
    .exact absurd d j
    exact d
   rw[hx,h,A_,s];simp[fw,j,t]
def Hq{a:e a'}(d:a')(f:nt a):jU a d=fw a d:=by have:=Ht d a [] f;rw[nx]at this;exact this
section
open Go.Sort (pdq bitsLen ltInt Below)
variable {q:al R}
def lC(a:e Int):e Int:=a.mergeSort λd f=>decide (d<=f)
def xh(a:e Int):c (lC a)=c a:=List.length_mergeSort _
def UH(a:e Int):pdq ltInt a.toArray 0 (c a) (bitsLen (c a)) i i=(lC a).toArray:=by have d:=Go.Sort.sortInt a;unfold Go.Sort.sort at d;rw[List.size_toArray]at d;exact qL bH
theorem NQ(a:e Int):ra a.toArray=cx.fn a:=by funext y;simp only[ra,dO.fn,hH,cx,av];simp
abbrev k7(d:Nat)(a:e Int):Y:=.A 3 1 d (cx.fn a)
def QQ(d:e Int)(f:c d<=4000000):ad q 107 [dw (c d)] [k7 (c d) d] (.C []) [k7 (c d) (lC d)]:=by
 refine ad.E func107 rfl λh=>?_;refine cq a bH (g.aF (vT (c d) f) [] a (cq a M ?_));have j:=qS (A:=c d) (o:=22) J;have key:ad q 145 [dw (c d),S 0,S (c d),S (bitsLen (c d))] [k7 (c d) d] (.C []) [k7 (c d) (lC d)]:=by have:=Qr (q:=q) (c d) f (c d) d.toArray 0 (c d) (bitsLen (c d)) x Q x (bE _) x (.inl a) (A:=0) a a a (UH d).symm;grind[NQ]
 exact g.aF key [0] a (cq a M qq)
def gp(d:e Int):Nat->e Int
 |0=>[]
 |a+1=>if a≠0/\d.getD a 0=d.getD (a-1) 0 then gp d a else gp d a++[d.getD a 0]
def hR(a:e Int):e Int:=gp a (c a)
def vd(d:e Int):∀a,c (gp d a)<=a
 |0=>bE _
 |a+1=>by have:=vd d a;simp only[gp];grind
def sV{l:e Int}:∀{d:Nat},d<=c l->(∀a,1<=a->a<d->l.getD a 0≠l.getD (a-1) 0)->gp l d=l.take d
 |0,_,_=>by simp[gp]
 |d+1,h,g=>by rw[gp,bp,sV x λa f j=>g a f x,ni x 0];grind
structure L5(l:e Int)(rz:Nat)(qa:Nat)(BV:e Int):Prop where
 iS:1<=qa
 ki:rz+qa<=c l
 len:c BV=c l
 lt:c (gp l (rz+qa))<rz+qa
 done:BV.take (c (gp l (rz+qa)))=gp l (rz+qa)
 kl:∀f,rz+qa<=f+1->BV.getD f 0=l.getD f 0
abbrev Md(f:e Int):Type:={a:Nat->e D // ∀d,d<c f->a d=cx.fn f d}
def Oz(l:e Int)(Z:c l<=4000000):bG (ι:=Md (hR l)) q 108 [dw (c l)] [k7 (c l) l] (λ_=>dR 0 (.M (c l) 1 0 (c (hR l)))) (λz=>[.A 3 1 (c l) z.1]):=by
 refine bG.cO func108 rfl rfl rfl λY=>?_;by_cases C:c l<2
 .have t:hR l=l:=by unfold hR;rw[sV (bE _) λd _ _=>by omega,eB]
  refine b6 [8] a bx (g.bS ⟨cx.fn l,λd _=>by rw[t]⟩ (g.aQ [0] a ?_ gN));simp[t]
 refine b6 [-8] a bx (g.b4 (S2:=Unit) 0 a a (λ_=>hR l=l) (λ_=>[(0,dw (c l))]) (λ_=>[k7 (c l) l]) 1 (λo:Nat=>1<=o/\o<=c l/\∀d,1<=d->d<o->l.getD d 0≠l.getD (d-1) 0) (λo=>[(0,dw (c l)),(3,S o)]) (λ_=>[k7 (c l) l]) (λo=>c l-o) 1 a Q a Q a ⟨bE _,by omega,λd G C=>by omega⟩ ?_ ?_)
 .rintro c8 o ⟨U,cI,E⟩;by_cases ab:o<c l
  .have ai:((o:Int)-1).toNat=o-1:=x;have F:∀v,l.getD v cx.N=l.getD v 0:=λ_=>rfl;by_cases n:l.getD o 0=l.getD (o-1) 0
   .refine b6 [13,25] a ?_ ?_
    .simp only[V,cX,dB,ai,F,n,a9,bM,j8,bn,bl];exact e_
    have aG:=sV (l:=l) x E;have H:gp l (o+1)=l.take o:=by rw[gp,bF ⟨by omega,n⟩,aG]
    refine g.b4 (S2:=e Int) 2 a a (λu=>c u=c l/\u.take (c (hR l))=hR l) (λ_=>[(0,dw (c l)),(3,S (c (hR l)))]) (λu=>[k7 (c l) u]) 1 (λf:Nat×e Int=>L5 l o f.1 f.2) (λf=>[(0,dw (c l)),(3,S (c (gp l (o+f.1)))),(4,dR 0 (.M (c l) 1 o (c l-o))),(5,S f.1)]) (λf=>[k7 (c l) f.2]) (λf=>c l-f.1) (1,l) a bH a Q a ?_ ?_ ?_
    .exact⟨bE _,by omega,a,by grind,by grind,λ_ _=>rfl⟩
    .rintro T ⟨j,u⟩ ⟨jb,jc,k_,M1,p,r⟩;simp only at jb jc k_ M1 p r;by_cases ad:o+j<c l
     .have N:((j:Int)-1).toNat=j-1:=x;have B:∀v,u.getD v cx.N=u.getD v 0:=λ_=>rfl;have A:u.getD (o+j) 0=l.getD (o+j) 0:=r _ x;have O:u.getD (o+(j-1)) 0=l.getD (o+(j-1)) 0:=r _ x;by_cases w:l.getD (o+j) 0=l.getD (o+(j-1)) 0
      .have K:gp l (o+(j+1))=gp l (o+j):=by rw[show o+(j+1)=o+j+1 by omega,gp,bF ⟨by omega,by rw[w,show o+j-1=o+(j-1) by omega]⟩]
       refine b6 [32,-44] a ?_ (g.av (j+1,u) a ?_ ?_ ?_ ?_)
       .simp only[V,cX,dB,N,B,A,O,w,a9,bM,mN,k3,j8,bn,bl];and_intros<;>first|trivial|omega
       .exact bH
       .simp
       .exact⟨by grind,by grind,k_,by grind,by grind,λd h=>r d J⟩
       omega
      have K:gp l (o+(j+1))=gp l (o+j)++[l.getD (o+j) 0]:=by rw[show o+(j+1)=o+j+1 by omega,gp,bp];rintro⟨_,n⟩;exact w (by rw[n,show o+j-1=o+(j-1) by omega])
      refine b6 [32,44] a ?_ (g.av (j+1,u.set (c (gp l (o+j))) (l.getD (o+j) 0)) a ?_ ?_ ?_ ?_)
      .simp only[V,cX,dB,N,B,A,O,a9,bM,iG,gn,pH,e3,bn,bl];and_intros<;>first|exact w|omega
      .exact bH
      .have y:=cx.iN u (c (gp l (o+j))) (l.getD (o+j) 0) (c l) x;simp only[V.W,V,cX,dB,B,A,bl,bn];exact y
      .refine⟨by grind,by grind,by grind,by grind,?_,λd h=>?_⟩
       .simp only;rw[K,dZ,show ∀R:Int,[R].length=1 fromλ_=>rfl,qM,List.take_set,List.set_eq_of_length_le J,p,hN x];rfl
       simp only at h⊢;rw[av,j7 x,<-av];grind
      omega
     have X:o+j=c l:=x;have I:gp l (o+j)=hR l:=bH;refine b6 [-32] a bx (g.aA ?_);rw[I]at p;exact T u ⟨k_,p⟩ a (by simp[I]) a Q
    rintro u ⟨D,s⟩;have W:c (hR l)<=c l:=vd l _;refine cq a bx (g.aI (aR.ic bv a a a a a a I5) a a ?_);refine a8 a bx (g.aV ⟨⟨se (0+cE 0 (b (c (hR l):Int))) (0+cE 0 (b (c (hR l):Int))+(cE (c l) k-cE 0 (b (c (hR l):Int)))) fh.zero (cx.fn u),λd h=>?_⟩,b3.mk [0] a ?_ a a a gN⟩)
    .have y:u[d]?=(hR l)[d]?:=J;refine(WZ I5).trans ?_;simp only[dO.fn,hH,av,y]
    exact bH
   refine b6 [13,-25] a ?_ (g.av (o+1) a ?_ ?_ ?_ ?_)
   .simp only[V,cX,dB,ai,F,a9,bM,gn,e3,bn,bl];and_intros<;>first|exact n|omega
   .simp
   .simp
   .grind
   omega
  obtain rfl:o=c l:=x;refine b6 [-13] a Q (g.aA ?_);exact c8 () (by unfold hR;rw[sV (bE _) E,eB]) a Q a Q
 rintro⟨⟩ t;refine cq a M (g.bS ⟨cx.fn l,λd _=>by rw[t]⟩ (g.aQ [0] a ?_ gN));simp[t]
end
section
variable {q:al R}
def wA(a:e kY):e Int:=a.flatMap (·.2)
def _root_.Go.AM.dO.iM(f:dO α)(a d:e α)(g:Nat)(j:g=c (a++d)):b4 g (b_ (c a) (f.fn a) (f.fn d)) (f.fn (a++d)):=by intro l h;simp only[b_,dO.fn,hH,av];grind
def Nr(a:e Int):c (hR a)<=c a:=vd a _
def Q9(e:an)(d:Nat)(f:dP e=i)(r:3<=d)(h:d<=c e)(o:c e<=4000000):ad q 210 [bC e,S d] [] (bm (oi e d)) []:=by
 refine ad.E func210 rfl λl=>?_;have n:=rA f (d-1) x;have p:=rA f (d-2) x;have s:=rA f (d-3) x;have j:((jI e ((d:Int)-1)).toNat:Int)=c9 e (d-1):=sl;have N:((jI e ((d:Int)-2)).toNat:Int)=c9 e (d-2):=sl;have u:((jI e ((d:Int)-3)).toNat:Int)=c9 e (d-3):=sl;refine a8 a ?_ (g.an a ?_)
 .simp only[V,a9,j,N,u];omega
 exact Kp
abbrev D1:bB:=eK dT dc (λa d=>bm (oi a d.toNat)) λa d=>[dP a=i,3<=d,d<=c a,c a<=4000000]
def Wg:bI q 210 D1:=.bf λh d g=>by
 obtain⟨e,j,l,f⟩:=g;obtain⟨a,rfl⟩:∃a:Nat,d=a:=⟨d.toNat,by omega⟩
 exact Q9 h a e x x f
def Og(h:an)(e:Nat)(f:dP h=i)(t:e<=c h)(y:c h<=4000000):ad q 174 [bC h,S e] [] (S (ec h e)) []:=by
 refine ad.E func174 rfl λv=>?_;have l:a3 q [(210,D1)]:=.cons Wg .nil;refine cu l a M (g.b1 (λd=>d<=5/\kD h e (5-d)=ec h e) (λd:Nat=>[(0,bC h),(1,S e),(5,S (3+d))]) (λ_=>[]) (λd=>5-d) 0 a Q a M ⟨by omega,a⟩ ?_);rintro d ⟨w,j⟩;by_cases s:d<5
 .obtain⟨o,cI⟩:∃o,5-d=o+1:=⟨4-d,by omega⟩
  have p:e+(7-o)=e+3+d:=x;rw[cI]at j;simp only[kD,p]at j;by_cases n:c h<=e+3+d
  .rw[bF n]at j;refine a4 l [7,15] a LM (g.bD (b3.zero a ?_));exact bx
  rw[bp n]at j;have ak:((e:Int)+(3+(d:Int))).toNat=e+3+d:=x;cases u:oi h (e+3+d)with
  |true=>
   rw[u,bF a]at j;refine a4 l [7,-15,22] a Kc (g.bD (b3.zero a ?_));exact bx
  |false=>
   rw[u,bp Q]at j;refine a4 l [7,-15,-22] a Kc (g.bI (d+1) a ?_ a M ⟨by omega,by grind⟩ x);exact bx
 have ak:ec h e=min (e+8) (c h):=by rw[<-j,show 5-d=0 by omega];rfl
 have r:a9 .i64 ((min (e+8) (c h):Nat):Int):=bH;refine a4 l [-7] a bx (g.a_ a a ?_);refine cu l a bH (g.aI (ww ((min (e+8) (c h):Nat):Int) a a a x r) a a ?_);refine cu l a M (g.an a ?_);simp[ak]
abbrev Dl:bB:=eK dT dc (λa d=>S (ec a d.toNat)) λa d=>[dP a=i,0<=d,d<=c a,c a<=4000000]
def Vq:bI q 174 Dl:=.bf λh d g=>by
 obtain⟨e,j,l,f⟩:=g;obtain⟨a,rfl⟩:∃a:Nat,d=a:=⟨d.toNat,by omega⟩
 exact Og h a e x f
abbrev lg(d:an):e Int:=(Nv d).map λa:Nat=>(a:Int)
def OJ(d:an)(y:dP d=i)(C:c d<=4000000):ad q 141 [bC d] [] (cx.M (lg d)) []:=by
 refine ad.E func141 rfl λB=>?_;have n:a3 q [(174,Dl)]:=.cons Vq .nil;refine a4 n [903] a M (g.bH 3 3 1 a a ?_);refine cu n a M (g.aN 1 (λh:Nat×e Int=>h.1<=c d/\c h.2<=h.1/\∃j,c d<=h.1+j/\lg d=h.2++(kf d j h.1).map λz:Nat=>(z:Int)) (λh=>[(0,bC d),(3,.k (.S (.q 0 1 (c h.2) (cx.fn h.2)))),(4,S h.1)]) (λh=>[.q 3 1 (c h.2) (cx.fn h.2)]) (λh=>c d-h.1) (0,[]) a Q a Q a ⟨by simp,by simp,c d,by simp,by exact bH⟩ ?_);rintro⟨l,f⟩ ⟨w,v,j,p,t⟩;simp only at w v p t;by_cases o:l<c d
 .obtain⟨j,rfl⟩:∃r,j=r+1:=⟨j-1,by omega⟩
  have x:=pY d l o;have u:=cx.aZ f (ec d l:Int);have s:c f+1=c (f++[(ec d l:Int)]):=Q;refine a4 n [9] a ?_ (g.av (ec d l,f++[(ec d l:Int)]) a ?_ ?_ ?_ ?_)
  .simp only[V,y,show fh.bytes=8 from a,bM,bn,bl];exact e_
  .exact V.W.2 ⟨a,V.W.2 ⟨⟨s,u⟩,V.W.2 ⟨a,M⟩⟩⟩
  .exact V.W.2 ⟨⟨s,u⟩,M⟩
  .refine⟨x.2.1,by grind,j,by grind,?_⟩;rw[t];simp only[kf,bF o];simp
  grind
 have A:lg d=f:=by
  have:kf d j l=[]:=by cases j<;>simp[kf,o]
  grind
 refine a4 n [-9] a bx (g.aA ?_);refine cu n a M (g.an a ?_);simp_all
abbrev Dr:bB:=df dT (λa=>cx.M (lg a)) λa=>[dP a=i,c a<=4000000]
def Vy:bI q 141 Dr:=.a3 λd a=>OJ d a.1 a.2
def NN{a d:e α}{g:α}(j:a.drop f=g::d)(h:α):f<c a/\a.getD f h=g/\a.drop (f+1)=d:=by grind[List.drop_eq_nil_of_le,List.drop_eq_getElem_cons]
def EH(e:an):∀a d,c (kf e a d)<=a
 |0,_=>bE _
 |a+1,d=>by
  simp only[kf];split
  .have:=EH e a (ec e d);grind
  simp
def Oa(d:an)(O:dP d=i)(C:c d<=4000000):ad q 98 [bC d] [] (bD.M (cc d)) []:=by
 refine ad.E func98 rfl λU=>?_;have o:a3 q [(141,Dr)]:=.cons Vy .nil;have T:c (lg d)<=c d:=by simp only[lg,iI];exact EH d _ _
 refine a4 o [902] a M (g.bH 3 9 1 a a ?_);refine cu o a dX (g.aN 1 (λh:Nat×Nat×e an=>h.1<=c (lg d)/\h.2.1<=c d/\c h.2.2<=h.1/\∃l,c d<=h.2.1+l/\(lg d).drop h.1=((kf d l h.2.1).map λF:Nat=>(F:Int))/\cc d=h.2.2++hG d l h.2.1) (λh=>[(0,bC d),(3,.k (.S (.q 0 1 (c h.2.2) (bD.fn h.2.2)))),(4,S h.2.1),(5,cx.M (lg d)),(6,S h.1)]) (λh=>[.q 9 1 (c h.2.2) (bD.fn h.2.2)]) (λh=>c (lg d)-h.1) (0,0,[]) a Q a Q a ⟨by simp,by simp,by simp,c d,by simp,by exact bH,by simp[cc]⟩ ?_);rintro⟨t,f,j⟩ ⟨r,E,D,l,s,x,w⟩;simp only at r E D s x w;by_cases p:t<c (lg d)
 .have X:kf d l f≠[]:=by grind[List.length_drop]
  obtain⟨l,rfl⟩:∃v,l=v+1:=by
   cases l with
   |zero=>exact bH
   |succ l=>grind
  have n:f<c d:=by
   rcases dJ f (c d) with p|p
   .exact p
   exact absurd (by simp only[kf,bp (show¬f<c d by omega)]) X
  simp only[kf,bF n,oB]at x;obtain⟨_,W,K⟩:=NN x 0;have I:=pY d f n;have u:(lg d).getD (t:Int).toNat cx.N=(ec d f:Int):=J;have y:lb d (b (f:Int)) (b (ec d f:Int))=(d.drop f).take (ec d f-f):=Ja;have B:=bD.aZ j ((d.drop f).take (ec d f-f));have A:c j+1=c (j++[(d.drop f).take (ec d f-f)]):=Q;refine a4 o [13] a ?_ (g.av (t+1,ec d f,j++[(d.drop f).take (ec d f-f)]) a ?_ ?_ ?_ ?_)
  .simp only[V,u,a9,ib,show p7.bytes=16 from a,bM,bn,bl];exact e_
  .simp only[V.W,V,u,y,bn,bl];and_intros<;>first|exact A|exact B|simp|omega
  .simp only[V.W,V,u,y,bn,bl];and_intros<;>first|exact A|exact B
  .refine⟨by grind,I.2.1,by grind,l,by grind,K,?_⟩;rw[w];simp only[hG,bF n];simp
  grind
 have R:cc d=j:=by
  have z:kf d l f=[]:=by grind[List.map_eq_nil_iff]
  have n:¬f<c d:=by
   intro N;cases l with
   |zero=>omega
   |succ l=>simp only[kf,bF N]at z;cases z
  rw[w];cases l<;>simp[hG,n]
 refine a4 o [-13] a dX (g.aA ?_);refine cu o a M (g.an a ?_);simp_all
abbrev vu:bB:=df dT (λa=>bD.M (cc a)) λa=>[dP a=i,c a<=4000000]
def BF:bI q 98 vu:=.a3 λd a=>Oa d a.1 a.2
def _root_.Go.AM.dO.e'(g:dO α)(a:e α)(f j:α):b4 (c a+1+1) (b_ (c a+1) (b_ (c a) (g.fn a) λd=>[g.a1 f].getD d []) λd=>[g.a1 j].getD d []) (g.fn (a++[f,j])):=by
 have n:=g.aZ a f;have h:=g.aZ (a++[f]) j;rw[show(a++[f]).length=c a+1 by simp,show a++[f]++[j]=a++[f,j] by simp]at h;intro d o;rw[<-h d o];simp only[b_];by_cases l:d<c a+1
 .rw[bF l,bF l];exact n d l
 grind
abbrev zw(a:bq):s:=.k (.agg [.c (.int .i64 a.1),.c (.R a.2)])
def ha(f:bq)(a:e bq×Bool)(d:bq):e bq×Bool:=if a.2=i then(a.1++[d],i)else if f.1<d.1 then(a.1++[f,d],i)else(a.1++[d],m)
def Ic(d:bq):∀(f:e bq)(a:e bq),(f.foldl (ha d) (a,i))=(a++f,i)
 |[],a=>by simp
 |g::h,a=>by rw[hx,show ha d (a,i) g=(a++[g],i)from rfl,Ic d h];simp
def Bz(d:bq):∀(h:e bq)(a:e bq),(if(h.foldl (ha d) (a,m)).2=i then(h.foldl (ha d) (a,m)).1 else(h.foldl (ha d) (a,m)).1++[d])=a++eo h d
 |[],a=>by simp[eo]
 |f::j,a=>by
  rw[hx];by_cases g:d.1<f.1
  .rw[show ha d (a,m) f=(a++[d,f],i) by simp[ha,g],Ic];simp[eo,g]
  rw[show ha d (a,m) f=(a++[f],m) by simp[ha,g],Bz d j];simp[eo,g]
theorem Id(d:bq):∀(f:e bq)(a:e bq×Bool),(f.foldl (ha d) a).1.length<=c a.1+c f+1-(if a.2=i then 1 else 0)
 |[],a=>by grind
 |h::g,a=>by rw[hx];have:=Id d g (ha d a h);unfold ha at this⊢;grind
abbrev hg(f:bq)(d:e bq)(a:Nat):e bq×Bool:=(d.take a).foldl (ha f) ([],m)
def CN{A:bq}{a:e bq}(d:f<c a):hg A a (f+1)=ha A (hg A a f) (a.getD f (0,[])):=lK
def vc(f:bq)(a:e bq)(d:Nat):(hg f a d).1.length<=c a+1:=by grind[Id]
abbrev GW(f:e bq)(g:bq)(d:Nat)(a:e bq×Bool):bd:=[(0,bS.M f),(3,ba 0 0),(5,.k (.S (.q 1 2 (c a.1) (bS.fn a.1)))),(6,bm a.2),(7,S d)]
abbrev AU(d:bq)(a:e bq):e Y:=[.cells 87 [.c (.int .i64 d.1),.c (.R d.2)],.q 87 2 (c a) (bS.fn a)]
def Qw(d:e bq)(A:bq)(z:c d<=4000000):ad q 104 [bS.M d,zw A] [] (bS.M (eo d A)) []:=by
 refine ad.E func104 rfl λw=>?_;refine b6 [902] a M (g.bH 5 87 2 a a ?_);refine cq a M (g.aN 2 (λf=>f<=c d) (λf:Nat=>GW d A f (hg A d f)) (λf=>AU A (hg A d f).1) (λf=>c d-f) 0 a ?_ a ?_ a x ?_)
 .simp[hg]
 .simp[hg]
 intro f t;by_cases s:f<c d
 .have p:=CN (A:=A) s;have j:=vc A d f;have ac:d.getD (f:Int).toNat bS.N=d.getD f (0,[]):=J;generalize hg A d f=h at p j;obtain⟨h,n⟩:=h;simp only at j;have o:=bS.aZ h (d.getD f (0,[]));have r:=bS.e' h A (d.getD f (0,[]));cases n with
  |true=>
   have u:hg A d (f+1)=(h++[d.getD f (0,[])],i):=p;have y:c h+1=c (h++[d.getD f (0,[])]):=Q;refine b6 [12] a ?_ (g.av (f+1) a ?_ ?_ ?_ ?_)
   .simp only[V,ac,a9,show kk.bytes=24 from a,bM,bn,bl];exact e_
   .exact KW
   .exact Lm
   .grind
   omega
  |false=>
   by_cases l:A.1<(d.getD f (0,[])).1
   .have u:hg A d (f+1)=(h++[A,d.getD f (0,[])],i):=by rw[p];simp only[ha,bF l];rfl
    have y:c h+1+1=c (h++[A,d.getD f (0,[])]):=Q;refine b6 [12,25] a ?_ (g.av (f+1) a ?_ ?_ ?_ ?_)
    .simp only[V,ac,a9,show kk.bytes=24 from a,l,l0,bM,bn,bl];exact e_
    .rw[u];simp only[V.W,V,ac,bn,bl];and_intros<;>first|exact y|exact r|simp|rfl|omega
    .rw[u];simp only[V.W,V,ac,bn,bl];and_intros<;>first|exact y|exact r|exactλ_ _=>rfl|rfl|omega
    .grind
    omega
   have u:hg A d (f+1)=(h++[d.getD f (0,[])],m):=by rw[p];simp only[ha,bp l];rfl
   have y:c h+1=c (h++[d.getD f (0,[])]):=Q;refine b6 [12,-25] a ?_ (g.av (f+1) a ?_ ?_ ?_ ?_)
   .simp only[V,ac,a9,show kk.bytes=24 from a,bM,l,lX,nB,d6,bn,bl];exact e_
   .exact KW
   .exact Lm
   .grind
   omega
 obtain rfl:f=c d:=x;have N:=Bz A d [];have j:=vc A d (c d);refine b6 [-12] a Q (g.aA ?_);have v:hg A d (c d)=d.foldl (ha A) ([],m):=J;rw[v]at j⊢;generalize d.foldl (ha A) ([],m)=h at *;obtain⟨h,n⟩:=h;simp only[nx]at N j;cases n with
 |true=>
  exact Lt
 |false=>
  simp only[jF,cr]at N;have o:=bS.aZ h A;refine cq a Jq (g.an a ?_);rw[<-N];simp only[V.W,V,bn,bl];and_intros<;>first|exact o|simp
abbrev DQ:bB:=eK (fQ bS) qC (λa d=>bS.M (eo a d)) λa _=>[c a<=4000000]
def V6:bI q 104 DQ:=.bf λd e a=>Qw d e a
abbrev ND(a:cJ):s:=.k (.agg [.c (.int .i64 a.1),.c (.int .i64 a.2)])
def e7(f:cJ)(a:e cJ×Bool)(d:cJ):e cJ×Bool:=
 if a.2=i then(if d.1=f.1 then a else(a.1++[d],i))else if f.1<=d.1 then(if d.1=f.1 then(a.1++[f],i)else(a.1++[f,d],i))else(a.1++[d],m)
def xk(d:cJ):∀(h:e cJ)(a:e cJ),(h.foldl (e7 d) (a,i))=(a++h.filter λl=>!(l.1==d.1),i)
 |[],a=>by simp
 |g::j,a=>by
  rw[hx];by_cases f:g.1=d.1
  .rw[show e7 d (a,i) g=(a,i) by simp[e7,f],xk d j];simp[f]
  rw[show e7 d (a,i) g=(a++[g],i) by simp[e7,f],xk d j];simp[f]
def Ie(a:cJ):∀(h:e cJ)(d:e cJ),(if(h.foldl (e7 a) (d,m)).2=i then(h.foldl (e7 a) (d,m)).1 else(h.foldl (e7 a) (d,m)).1++[a])=d++dW h a
 |[],d=>by simp[dW]
 |f::l,d=>by
  rw[hx];by_cases j:a.1<=f.1
  .have u:¬f.1<a.1:=x;by_cases g:f.1=a.1
   .rw[show e7 a (d,m) f=(d++[a],i) by simp[e7,g],xk];simp[dW,g]
   rw[show e7 a (d,m) f=(d++[a,f],i) by simp[e7,j,g],xk];simp[dW,u,g]
  have u:f.1<a.1:=x;rw[show e7 a (d,m) f=(d++[f],m) by simp[e7,j],Ie a l];simp[dW,u]
theorem If(d:cJ):∀(l:e cJ)(a:e cJ×Bool),(l.foldl (e7 d) a).1.length<=c a.1+c l+1-(if a.2=i then 1 else 0)
 |[],a=>by grind
 |f::o,a=>by
  rw[hx];have h:=If d o (e7 d a f);obtain⟨a,n⟩:=a;simp only[fR];cases n with
  |true=>
   by_cases g:f.1=d.1
   .rw[show e7 d (a,i) f=(a,i) by simp[e7,g]]at h⊢;grind
   rw[show e7 d (a,i) f=(a++[f],i) by simp[e7,g]]at h⊢;grind
  |false=>
   by_cases j:d.1<=f.1
   .by_cases g:f.1=d.1
    .rw[show e7 d (a,m) f=(a++[d],i) by simp[e7,g]]at h⊢;grind
    rw[show e7 d (a,m) f=(a++[d,f],i) by simp[e7,j,g]]at h⊢;grind
   rw[show e7 d (a,m) f=(a++[f],m) by simp[e7,j]]at h⊢;grind
abbrev j9(f:cJ)(d:e cJ)(a:Nat):e cJ×Bool:=(d.take a).foldl (e7 f) ([],m)
def Ms{A:cJ}{a:e cJ}(d:f<c a):j9 A a (f+1)=e7 A (j9 A a f) (a.getD f (0,0)):=lK
def CO(f:cJ)(a:e cJ)(d:Nat):(j9 f a d).1.length<=c a+1:=by grind[If]
abbrev Tc(f:e cJ)(g:cJ)(d:Nat)(a:e cJ×Bool):bd:=[(0,eS.M f),(3,ba 0 0),(5,.k (.S (.q 1 2 (c a.1) (eS.fn a.1)))),(6,bm a.2),(7,S d)]
abbrev Tb(d:cJ)(a:e cJ):e Y:=[.cells 163 [.c (.int .i64 d.1),.c (.int .i64 d.2)],.q 163 2 (c a) (eS.fn a)]
def Qz(d:e cJ)(A:cJ)(w:c d<=4000000):ad q 103 [eS.M d,ND A] [] (eS.M (dW d A)) []:=by
 refine ad.E func103 rfl λv=>?_;refine b6 [902] a M (g.bH 5 163 2 a a ?_);refine cq a M (g.aN 2 (λf=>f<=c d) (λf:Nat=>Tc d A f (j9 A d f)) (λf=>Tb A (j9 A d f).1) (λf=>c d-f) 0 a ?_ a ?_ a x ?_)
 .simp[j9]
 .simp[j9]
 intro f s;by_cases r:f<c d
 .have o:=Ms (A:=A) r;have j:=CO A d f;have ac:d.getD (f:Int).toNat eS.N=d.getD f (0,0):=J;generalize j9 A d f=h at o j;obtain⟨h,l⟩:=h;simp only at j;have y:=eS.aZ h (d.getD f (0,0));have n:=eS.aZ h A;have p:=eS.e' h A (d.getD f (0,0));cases l with
  |true=>
   by_cases heq:(d.getD f (0,0)).1=A.1
   .have u:j9 A d (f+1)=(h,i):=by rw[o];simp only[e7,cN,bF heq]
    refine b6 [12,-38] a K1 (g.av (f+1) a ?_ ?_ ?_ ?_)
    .rw[u];simp
    .rw[u];simp
    .grind
    omega
   have u:j9 A d (f+1)=(h++[d.getD f (0,0)],i):=by rw[o];simp only[e7,cN,bp heq]
   refine b6 [12,38] a K1 (g.av (f+1) a JK Kk J ?_);omega
  |false=>
   by_cases ak:A.1<=(d.getD f (0,0)).1
   .by_cases heq:(d.getD f (0,0)).1=A.1
    .have u:j9 A d (f+1)=(h++[A],i):=by rw[o];simp only[e7,bF ak,bF heq];rfl
     refine b6 [12,25,-38] a B4 (g.av (f+1) a ?_ ?_ ?_ ?_)
     .rw[u];simp only[V.W,V,ac,bn,bl];and_intros<;>first|exact y|exact n|simp|simp|rfl|omega|simp
     .rw[u];exact bH
     .grind
     omega
    have u:j9 A d (f+1)=(h++[A,d.getD f (0,0)],i):=by rw[o];simp only[e7,bF ak,bp heq];rfl
    refine b6 [12,25,38] a B4 (g.av (f+1) a ?_ ?_ ?_ ?_)
    .rw[u];simp only[V.W,V,ac,bn,bl];and_intros<;>first|exact y|exact n|exact p|simp|rfl|omega|simp
    .rw[u];simp only[V.W,V,ac,bn,bl];and_intros<;>first|exact y|exact n|exact p|grind|rfl|omega|simp
    .grind
    omega
   have heq:¬(d.getD f (0,0)).1=A.1:=x;have u:j9 A d (f+1)=(h++[d.getD f (0,0)],m):=by rw[o];simp only[e7,bp ak];rfl
   refine b6 [12,-25,38] a B4 (g.av (f+1) a JK Kk J ?_);omega
 obtain rfl:f=c d:=x;have N:=Ie A d [];have j:=CO A d (c d);refine b6 [-12] a Q (g.aA ?_);have t:j9 A d (c d)=d.foldl (e7 A) ([],m):=J;rw[t]at j⊢;generalize d.foldl (e7 A) ([],m)=h at *;obtain⟨h,l⟩:=h;simp only[nx]at N j;cases l with
 |true=>
  exact Lt
 |false=>
  simp only[jF,cr]at N;have y:=eS.aZ h A;refine cq a ?_ (g.an a ?_)
  .simp only[V,show nR.bytes=16 from a,bn,bl];grind
  rw[<-N];simp only[V.W,V,bn,bl];and_intros<;>first|exact y|simp
abbrev DR:bB:=eK (fQ eS) qB (λa d=>eS.M (dW a d)) λa _=>[c a<=4000000]
def V7:bI q 103 DR:=.bf λd e a=>Qz d e a
abbrev Bx(a:bU):e cJ:=a.2.map λd=>(d.1,a.1)
def gy(d:e bU)(a f:Nat):e cJ:=dk (d.take a)++(Bx (d.getD a (0,[]))).take f
def By{a:e bU}(d:f<c a):dk (a.take (f+1))=dk (a.take f)++Bx (a.getD f (0,[])):=by rw[ni d (0,[])];simp[dk]
theorem H'(a:e bU)(d:Nat):c (dk (a.take d))<=c (dk a):=by have f:dk a=dk (a.take d)++dk (a.drop d):=LQ;grind
def xi{l:e bU}(d:f<c l):∃g,dk l=gy l f y++g:=by have a:dk l=dk (l.take (f+1))++dk (l.drop (f+1)):=LQ;refine⟨(Bx (l.getD f (0,[]))).drop y++dk (l.drop (f+1)),?_⟩;rw[a,By d,gy,mO,mO];grind[List.take_append_drop]
theorem TL(a:e cJ)(d:cJ):c (dW a d)<=c a+1:=by
 induction a with
 |nil=>simp[dW]
 |cons h g f=>
  simp only[dW];grind
theorem z9(a:e cJ):∀d:e cJ,c (a.foldl dW d)<=c d+c a:=by
 induction a with
 |nil=>grind
 |cons h g f=>grind[TL]
def Pn(l:e bU)(I:c l<=4000000)(F:c (dk l)<=100000):ad q 52 [br.M l] [] (eS.M (dV l)) []:=by
 refine ad.E func52 rfl λK=>?_;have f:a3 q [(102,DX),(103,DR)]:=.cons Wc (.cons V7 .nil);refine c0 f a M (g.aN 0 (λd=>d<=c l/\(dk (l.take d)).all fr=i) (λd:Nat=>[(0,br.M l),(3,eS.M ((dk (l.take d)).foldl dW [])),(4,S d)]) (λ_=>[]) (λd=>c l-d) 0 a ?_ a ?_ a ⟨by omega,a⟩ ?_)
 .simp[dk]
 .simp
 rintro d ⟨t,n⟩;by_cases o:d<c l
 .have h:l.getD (d:Int).toNat br.N=l.getD d (0,[]):=J;have s:=By o;refine bs f [11] a bx (g.aN 0 (λy=>y<=(l.getD d (0,[])).2.length/\(gy l d y).all fr=i) (λy:Nat=>[(0,br.M l),(3,eS.M ((gy l d y).foldl dW [])),(4,S d),(5,S y)]) (λ_=>[]) (λy=>(l.getD d (0,[])).2.length-y) 0 a ?_ a ?_ a ⟨by omega,by simpa[gy]using n⟩ ?_)
  .simp[gy]
  .simp
  rintro y ⟨O,C⟩;obtain⟨z,w⟩:=xi (l:=l) (y:=y) o;have B:c (gy l d y)<=100000:=J;have v:=z9 (gy l d y) [];simp only[gX]at v;have D:(l.getD d (0,[])).2.length<=100000:=by grind[H']
  by_cases N:y<(l.getD d (0,[])).2.length
  .have j:(l.getD d (0,[])).2.getD (y:Int).toNat bS.N=(l.getD d (0,[])).2.getD y (0,[]):=J;have u:gy l d (y+1)=gy l d y++[(((l.getD d (0,[])).2.getD y (0,[])).1,(l.getD d (0,[])).1)]:=LA;cases p:fr (((l.getD d (0,[])).2.getD y (0,[])).1,(l.getD d (0,[])).1)with
   |false=>
    have A:dV l=[]:=by obtain⟨z,w⟩:=xi (l:=l) (y:=y+1) o;unfold dV;rw[bp];grind
    refine bs f [21,-40] a ?_ (g.aV (b3.zero a ?_))
    .simp only[V,h,j,p,bM,bn,bl];exact e_
    rw[A];simp
   |true=>
    refine bs f [21,40] a ?_ (g.av (y+1) a ?_ ?_ ?_ ?_)
    .simp only[V,h,j,p,a9,eS.aa,bM,bn,bl];and_intros<;>first|exact eS.ad _|omega
    .rw[u];simp only[List.foldl_append,hx,List.foldl_nil,V.W,V,h,j,eS.aa,bn,bl];and_intros<;>first|simp|rfl|omega
    .simp
    .grind
    omega
  have E:y=(l.getD d (0,[])).2.length:=x;have r:gy l d y=dk (l.take (d+1)):=by rw[s,gy];grind[List.length_map]
  refine bs f [-21] a ?_ (g.aA ?_)
  .simp only[V,h,d6];exact e_
  refine c0 f a bH (g.av (d+1) a ?_ ?_ ?_ ?_)
  .rw[r];simp
  .simp
  .grind
  omega
 obtain rfl:d=c l:=x;rw[eB]at n⊢;refine bs f [-11] a Q (g.aA ?_);refine c0 f a M (g.an a ?_);simp[dV,n]
abbrev Dw:bB:=df (fQ br) (λa=>eS.M (dV a)) λa=>[c a<=4000000,c (dk a)<=100000]
def VH:bI q 52 Dw:=.a3 λd a=>Pn d a.1 a.2
abbrev tb:bB:=eK dc dT (λa d=>S (dF a d)) λa d=>[cB a=i,cp d=i]
abbrev vw:bB:=df dT (λa=>bC (eY a)) λa=>[cp a=i]
def BI:bI q 105 vw:=.a3 λd a=>Qm d a
theorem TF(a:e bq)(f:bq):c (eo a f)=c a+1:=by
 induction a with
 |nil=>simp[eo]
 |cons h g d=>simp only[eo];split<;>simp[d]
def eH(f:Int)(a:e an):e bq:=a.foldl (λg d=>eo g (dF f d,eY d)) []
theorem rG(g:Int)(a:e an):c (eH g a)=c a:=by
 have h:∀(a:e an) (f:e bq),c (a.foldl (λj d=>eo j (dF g d,eY d)) f)=c f+c a:=by
  intro a;induction a with
  |nil=>grind
  |cons d n l=>grind[TF]
 have:=h a [];rw[gX,cX]at this;exact this
def SM{a:e an}(d:f<c a):eH o (a.take (f+1))=eo (eH o (a.take f)) (dF o (a.getD f []),eY (a.getD f [])):=by unfold eH;grind[ni]
abbrev Tp(a:Int)(d:e bq):Y:=.cells 61 [.c (.int .i64 a),.c (.M m 2 (c d) (bS.fn d))]
end
end R1
end Go.AM
