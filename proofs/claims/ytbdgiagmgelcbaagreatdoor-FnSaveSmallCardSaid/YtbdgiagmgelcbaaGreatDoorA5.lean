/- Part 5. No condition. -/
import Derived.Test.YtbdgiagmgelcbaaGreatDoorA4
import Derived.Sort.Walk13a
set_option linter.all false
set_option maxHeartbeats 8000000
open Go.Proofs
open Go.Proofs.Tryz
open List renaming length → c, range → aI, getD_eq_getElem?_getD → av, all_eq_true → aX
open Go renaming Value → I, TypeId → ab, undef → E, World → af, Operand → Z, execOp → W, Program → aw, Oper → ah, Goroutine → ae, Frame → az, FuncId → ar, MapEntry → aC
open Option renaming some → b, none → k
open Bool renaming true → i, false → m
open Nat renaming beq → aa, ble → aD
open Go.Op renaming bytesLess → aK
open Go.Region renaming ready → aQ
open Go.Proofs.Tryz renaming prog → R
namespace Go.AM
variable {p:Nat}{o:Int}{l j f y:Nat}{T:ab}{H:I->(Nat->Option Obj)->Prop}{L:Array Bool}{bi:Mem}{B:Nat}{P:aw}{bg:ae->aj->Prop}{u:Code}{X:ae}{r:ah}{d:aj}{w:ab}{ai:I}{K:af}{α:Type}{η:Z->s}{ι:Type}{h:e Y}{F:bd}{all:e ah}{dK:Array ab}{cap:e D}{dg:e s}{eb:Nat->Option Obj}{aY:e az}{bK:e (Nat×Bool)}{es:Nat->e D}{dC:Z}{gs:Array ae}{bb:e Nat}{cl:e Prop}{off:Nat}{op:BinOp}{aP:Array ah}{aB:e Prop}{bw:e ah}{au:aj}{gz:Bool}{ty:ab}{val:Nat->Nat->I}{z:e I}{a5:af}{O:e I}{aO dq:e Y}{res:ι->s}{a6:ι->e Y}
variable {CT:e (Nat×bB)}{ax:e dz}{a7:dn}{ag:e (Nat×bh)}{bz:bh}
namespace R1
section
variable {q:al R}
theorem Ss{d a:an}(f:dP d=i)(g:∀e∈a,e∈d):dP a=i:=by unfold dP at f⊢;grind
def He{e:an}(h:dP e=i):∀g a,∀f∈hG e g a,cp f=i
 |0,_,f,d=>by exact bH
 |g+1,a,f,d=>by
  simp only[hG]at d;split at d
  .rename_i j;have l:=pY e a j;rcases ef.1 d with rfl|d
   .have u:c ((e.drop a).take (ec e a-a))=ec e a-a:=J;simp only[cp,ct,bM];grind[Ss]
   exact He h g _ f d
  grind
def tZ{a:an}(d:dP a=i):∀e∈cc a,cp e=i:=He d _ _
def Hd(e:an):∀a d,c (hG e a d)<=a
 |0,_=>bE _
 |a+1,d=>by
  simp only[hG];split
  .have:=Hd e a (ec e d);grind
  simp
def qf(a:an):c (cc a)<=c a:=Hd a _ _
def eC(d:e a'):e an:=d.flatMap λa=>cc a.2
def CU{a:e a'}(d:f<c a):eC (a.take (f+1))=eC (a.take f)++cc (a.getD f ([],[])).2:=by rw[ni d ([],[])];simp[eC]
def CS(a:e a')(d:Nat):c (eC (a.take d))<=c (eC a):=by
 have f:eC a=eC (a.take d)++eC (a.drop d):=by unfold eC;grind[List.take_append_drop]
 grind
def z8(f:Int)(g:e cJ)(a:e an):∀d:e an,c (a.foldl (eP f g) d)<=c d+c a:=by
 induction a with
 |nil=>grind
 |cons h o j=>
  intro d;have l:=j (eP f g d h);have n:c (eP f g d h)<=c d+1:=by unfold eP;split<;>simp
  grind
abbrev Ds:bB:=eK (fQ eS) dc (λa d=>S (hV a d)) λa _=>[c a<=4000000]
def VB:bI q 99 Ds:=.bf λd e a=>OU d e a
abbrev Dx:bB:=eK (fQ bD) dT (λa d=>bm (a.contains d)) λa _=>[c a<=4000000]
def VI:bI q 101 Dx:=.bf λd e a=>Ph d e a
abbrev ED(a:e an):s:=.k (.S (.q 0 1 (c a) (bD.fn a)))
structure nm(w:e a'):Prop where
 len:c w<=4000000
 ed:∀ac∈w,dP ac.2=i/\c ac.2<=4000000
 all:c (eC w)<=100000
def P6(n:Int)(f:e a')(o:e cJ)(t:cB n=i)(w:nm f)(U:c o<=4000000):ad q 51 [S n,bf.M f,eS.M o] [] (bD.M (e6 n f o)) []:=by
 refine ad.E func51 rfl λC=>?_;have p:a3 q [(98,vu),(100,tb),(99,Ds),(101,Dx)]:=.cons BF (.cons un (.cons VB (.cons VI .nil)));refine bs p [902] a M (g.bH 7 9 1 a a ?_);refine c0 p a M (g.aN 1 (λd=>d<=c f) (λd:Nat=>[(0,S n),(1,bf.M f),(2,eS.M o),(7,ED ((eC (f.take d)).foldl (eP n o) [])),(8,S d)]) (λd=>[.q 9 1 (c ((eC (f.take d)).foldl (eP n o) [])) (bD.fn ((eC (f.take d)).foldl (eP n o) []))]) (λd=>c f-d) 0 a ?_ a ?_ a x ?_)
 .simp[eC]
 .simp[eC]
 intro d E;by_cases B:d<c f
 .have K:f.getD (d:Int).toNat bf.N=f.getD d ([],[]):=J;have A:f.getD d ([],[])∈f:=J;obtain⟨T,O⟩:=w.ed _ A;have F:=CU B;have R:=CS f (d+1);have W:=w.all;have X:=w.len;have N:=tZ T;generalize f.getD d ([],[])=l at *;rw[F,dZ]at R;refine bs p [15] a dX ?_;rw[K];refine g.aN 1 (λh=>h<=c (cc l.2)) (λh:Nat=>[(0,S n),(1,bf.M f),(2,eS.M o),(7,ED ((eC (f.take d)++(cc l.2).take h).foldl (eP n o) [])),(8,S d),(9,bD.M (cc l.2)),(10,S h)]) (λh=>[.q 9 1 (c ((eC (f.take d)++(cc l.2).take h).foldl (eP n o) [])) (bD.fn ((eC (f.take d)++(cc l.2).take h).foldl (eP n o) []))]) (λh=>c (cc l.2)-h) 0 a Q a Q a x ?_;intro h s;have I:=z8 n o (eC (f.take d)++(cc l.2).take h) [];simp only[gX,dZ,List.length_take]at I;by_cases D:h<c (cc l.2)
  .have j:(cc l.2).getD (h:Int).toNat bD.N=(cc l.2).getD h []:=J;have u:cp ((cc l.2).getD h [])=i:=N _ J;have r:(eC (f.take d)++(cc l.2).take (h+1)).foldl (eP n o) []=eP n o ((eC (f.take d)++(cc l.2).take h).foldl (eP n o) []) ((cc l.2).getD h []):=lK;generalize(eC (f.take d)++(cc l.2).take h).foldl (eP n o) []=c8 at *;generalize(cc l.2).getD h []=y at *;have z:=bD.aZ c8 y;by_cases v:hV o (dF n y)=0
   .cases ai:c8.contains y with
    |true=>
     rw[eP,bp J]at r;refine bs p [27,38,45] a ?_ (g.av (h+1) a ?_ ?_ ?_ ?_)
     .simp only[V,j,t,u,v,ai,a9,bD.aa,eS.aa,j8,bM,bn,bl];exact K7
     .rw[r];simp
     .rw[r];simp
     .grind
     omega
    |false=>
     rw[eP,bF J]at r;refine bs p [27,38,-45] a ?_ (g.av (h+1) a ?_ ?_ ?_ ?_)
     .simp only[V,j,t,u,v,ai,a9,show p7.bytes=16 from a,bD.aa,eS.aa,j8,bM,bn,bl];exact K7
     .rw[r];simp only[V.W,V,j,dZ,fR,gX,bn,bl];and_intros<;>first|exactλ_ _=>rfl|exact z|rfl|omega
     .rw[r];simp only[V.W,V,j,dZ,fR,gX,bn,bl];and_intros<;>first|exact z|rfl|omega
     .grind
     omega
   rw[eP,bp J]at r;refine bs p [27,-38] a ?_ (g.av (h+1) a ?_ ?_ ?_ ?_)
   .simp only[V,j,t,u,a9,eS.aa,gn,e3,v,nB,bM,bn,bl];and_intros<;>first|exact eS.ad _|omega
   .rw[r];simp
   .rw[r];simp
   .grind
   omega
  have Y:h=c (cc l.2):=x;refine bs p [-27] a bx (g.aA ?_);exact c0 p a bH (g.av (d+1) a dX dX J x)
 obtain rfl:d=c f:=x;rw[eB];refine bs p [-15] a Q (g.aA ?_);refine c0 p a M (g.an a ?_);simp[e6,eC]
abbrev jp(d:Int)(a:e an):e Int:=a.map (dF d)
abbrev m8(a:Int)(d:e a'):e kY:=d.map (iV a)
abbrev GM(d:Int)(a:e kY):e Y:=[.cells 65 [.c (.int .i64 0),.c (.M i 0 0 λ_=>[])],.cells 65 [.c (.int .i64 d),.q 2 2 (c a) (cP.fn a)],.q 135 2 (c a) (cP.fn a)]
def P'(s h:Int)(n:e a')(t:cB h=i)(w:nm n):ad q 54 [S s,S h,bf.M n] [] (mT (f' s h n)) []:=by
 refine ad.cS bv func54 rfl rfl rfl λW=>?_;have o:a3 q [(98,vu),(100,tb)]:=.cons BF (.cons un .nil);refine bs o [902] a M (g.cP 1 1 135 2 (cP.fn []) a a ?_);refine c0 o a M (g.aN 3 (λl=>l<=c n) (λl:Nat=>[(1,S h),(2,bf.M n),(6,ba 0 0),(7,ba 1 0),(8,S l)]) (λl=>GM s (m8 h (n.take l))) (λl=>c n-l) 0 a Q a Q a x ?_);intro l B;by_cases O:l<c n
 .have r:n.getD (l:Int).toNat bf.N=n.getD l ([],[]):=J;have A:n.getD l ([],[])∈n:=J;obtain⟨K,I⟩:=w.ed _ A;have U:=w.len;have E:=tZ K;have T:=qf (n.getD l ([],[])).2;have v:m8 h (n.take (l+1))=m8 h (n.take l)++[iV h (n.getD l ([],[]))]:=lK;have R:c (m8 h (n.take l))=l:=J;generalize n.getD l ([],[])=d at *;generalize m8 h (n.take l)=p at *;refine bs o [18,907] a dX ?_;rw[r];refine g.bH 10 3 1 a a ?_;refine c0 o a M (g.aN 4 (λf=>f<=c (cc d.2)) (λf:Nat=>[(1,S h),(2,bf.M n),(6,ba 0 0),(7,ba 1 0),(8,S l),(9,bD.M (cc d.2)),(10,.k (.S (.q 3 1 f (cx.fn (jp h ((cc d.2).take f)))))),(11,S f)]) (λf=>GM s p++[.q 3 1 f (cx.fn (jp h ((cc d.2).take f)))]) (λf=>c (cc d.2)-f) 0 a Q a Q a x ?_);intro f z;by_cases X:f<c (cc d.2)
  .have j:(cc d.2).getD (f:Int).toNat bD.N=(cc d.2).getD f []:=J;have C:cp ((cc d.2).getD f [])=i:=E _ J;have u:=cx.aZ (jp h ((cc d.2).take f)) (dF h ((cc d.2).getD f []));rw[show(jp h ((cc d.2).take f)).length=f by grind,show jp h ((cc d.2).take f)++[dF h ((cc d.2).getD f [])]=jp h ((cc d.2).take (f+1)) by grind[ni]]at u;refine bs o [31] a ?_ (g.av (f+1) a ?_ ?_ ?_ ?_)
   .simp only[V,j,t,C,a9,show fh.bytes=8 from a,bM,bn,bl];exact e_
   .exact JX
   .exact JX
   .grind
   omega
  have F:f=c (cc d.2):=x;rw[F,eB];have u:=cP.aZ p (iV h d);have y:c p+1=c (p++[iV h d]):=Q;have N:cP.a1 (iV h d)=[D.R d.1,D.M m 1 (c (cc d.2)) (cx.fn (jp h (cc d.2)))]:=by show[D.R d.1,D.M m 1 (c (jp h (cc d.2))) (cx.fn (jp h (cc d.2)))]=_;grind
  rw[N,<-v]at u;rw[<-v]at y;refine bs o [-31] a Q (g.aA ?_);refine c0 o a JI (g.av (l+1) a Q ?_ ?_ ?_)
  .simp only[V.W,V,r,bn,bl];and_intros<;>first|exact b4.same|exact u|exact y|rfl
  .grind
  omega
 obtain rfl:l=c n:=x;rw[eB];refine bs o [-18] a Q (g.aA ?_);refine c0 o a M (g.cc () [] ?_ (λf z=>absurd z Q));simp[f']
def sX(d a:Nat->e D):b_ 0 d a=a:=by funext f;simp[b_]
abbrev f_(a:bP):Y:=.cells 27 [.c (.M m 2 (c a.1) (br.fn a.1)),.c (.M m 2 (c a.2.1) (cG.fn a.2.1)),.c (.M m 2 (c a.2.2) (bV.fn a.2.2))]
def js(a:e bU)(f:Nat->I)(d:Nat):e D:=[.int .i64 (a.getD d (0,[])).1,.val (f d)]
def h'(a:e bU)(h:Nat->I)(g:Nat):Mem->Prop:=λf=>∀d,d<g->Rd f (h d) (.M m 2 (a.getD d (0,[])).2.length (bS.fn (a.getD d (0,[])).2))
def ly(e:Nat->I)(d:Nat)(f:I)(a:Nat):I:=if a=d then f else e a
def Tv{aB:e bU}{be:Nat->I}:b4 (f+1) (b_ f (js aB be) (λa=>([[.int .i64 (aB.getD f (0,[])).1,.val ai]]:e (e D)).getD a [])) (js aB (ly be f ai)):=by
 intro a g;by_cases d:a<f
 .simp[b_,d,js,ly,show a≠f by omega]
 obtain rfl:a=f:=x;simp[b_,js,ly]
def h'.up{aB:e bU}{be:Nat->I}{b':dy}(F:0<(aB.getD f (0,[])).2.length)(t:fM 2 (aB.getD f (0,[])).2.length (bS.fn (aB.getD f (0,[])).2) O)(D:∃h d,b'=.row h d/\(aB.getD f (0,[])).2.length<=d/\d<=9223372036854775807):
  ∀r g,pt r g->h' aB be f r->(∀h d,b'=.row h d->∀l ai,O[l]?=b ai->g h l=b ai)->h' aB (ly be f (cT b' (aB.getD f (0,[])).2.length)) (f+1) g:=by
 intro r g p v q l A;by_cases u:l<f
 .have:=(v l u).mono p;simpa[ly,show l≠f by omega]using this
 obtain rfl:l=f:=x;obtain⟨h,d,rfl,B,z⟩:=D;rw[ly,bF a];have q:=q h d a;refine .M h 0 (λj o=>O.getD (j*2+o) E) B z (λu=>by cases u) (λj n=>t.dN j n) bN (λj n o s w=>?_) λj n o s w=>?_
 .obtain⟨ai,y,C⟩:=t.cd j n o s w;grind
 obtain⟨ai,y,C⟩:=t.cd j n o s w;grind
abbrev vD(a:bP)(f:Nat)(d:Nat->e D)(g:Nat)(j:e fE)(h:Mem->Prop):e Y:=[f_ a,.cells 27 [eu,eu,eu],.A 61 2 f d,.A 65 2 g (cG.fn j),.A 104 2 (c a.2.2) (bV.fn a.2.2),.cells 27 [.ak 2 (.M f 2 0 f),.ak 3 (.M g 2 0 g),.ak 4 (.M (c a.2.2) 2 0 (c a.2.2))],.Q (ea h)]
def OA(d:bP)(N:∀r∈d.1,0<c r.2)(C:c d.1<=4000000)(K:∀r∈d.1,c r.2<=4000000)(Y:c d.2.1<=4000000)(B:oa d)(s:c d.2.2<=4000000):
  bG (ι:=Nat->I) q 49 [fg d] [] (λ_=>.k (.agg [.ak 0 (.M (c d.1) 2 0 (c d.1)),.ak 1 (.M (c d.2.1) 2 0 (c d.2.1)),.ak 2 (.M (c d.2.2) 2 0 (c d.2.2))]))
   (λbe=>[.A 61 2 (c d.1) (js d.1 be),.A 65 2 (c d.2.1) (cG.fn d.2.1),.A 104 2 (c d.2.2) (bV.fn d.2.2),.Q (ea (h' d.1 be (c d.1)))]):=by
 refine bG.c5 bv func49 rfl rfl rfl λU=>?_;refine b6 [901] a M (g.region ?_);refine is [] 5 a M (g.fq 9 61 2 (br.fn []) a ?_);refine g.fq 10 65 2 (cG.fn []) a ?_;refine g.fq 11 104 2 (bV.fn []) a ?_;refine b6 [902] a ?_ ?_
 .simp only[V,show tB.bytes=16 from a,bn,bl];grind
 refine g.fB 87 2 ?_;refine g.ez (ι:=Unit) 6 (λ_=>ea (h' d.1 (λ_=>E) 0)) a (λai y j=>⟨(),ea.start (λ_ _ j=>absurd j (gY _)) ai y j⟩) λ_=>?_;refine cq a M (g.aN 7 (λh:Nat×(Nat->I)=>h.1<=c d.1) (λh=>[(1,ba 0 0),(2,ba 1 0),(3,ba 5 0),(4,S h.1)]) (λh=>vD d h.1 (js d.1 h.2) 0 [] (h' d.1 h.2 h.1)) (λh=>c d.1-h.1) (0,λ_=>E) a Q a ?_ a (jG _) ?_)
 .simp[b4,sX];rfl
 rintro⟨f,n⟩ u;simp only at u;by_cases j:f<c d.1
 .have X:d.1.getD f (0,[])∈d.1:=J;have t:d.1.getD (f:Int).toNat br.N=d.1.getD f (0,[]):=J;have be:=K _ X;have v:=N _ X;rw[<-t]at v be;refine a_ [20,905] a bx ?_;refine g.eV (ι:=np (d.1.getD (f:Int).toNat br.N).2) c5 15 18 8 (λo=>aD o 14)
   (λo=>[ba 5 0,dR 2 (.M f 2 0 f),ba 0 0,br.M d.1,S f,q_ [.int .i64 (d.1.getD (f:Int).toNat br.N).1,jW (d.1.getD (f:Int).toNat br.N)],q_ [.int .i64 (d.1.getD (f:Int).toNat br.N).1,jW (d.1.getD (f:Int).toNat br.N)],S (d.1.getD (f:Int).toNat br.N).1,
    aL (.M i 2 0 (λe=>[].getD e [])),ba 0 0,br.M d.1,S f,q_ [.int .i64 (d.1.getD (f:Int).toNat br.N).1,jW (d.1.getD (f:Int).toNat br.N)],q_ [jW (d.1.getD (f:Int).toNat br.N)],aL (jW (d.1.getD (f:Int).toNat br.N))].getD o .any)
   (λbe o=>[aL (n4 _ be),.k (.agg [.c (.int .i64 (d.1.getD (f:Int).toNat br.N).1),.c (n4 _ be)]),aL (.M i 2 1 (λe=>[[.int .i64 (d.1.getD (f:Int).toNat br.N).1,n4 _ be]].getD e []))].getD (o-15) .any)
   (λbe=>vD d f (js d.1 n) 0 [] (h' d.1 n f)++[rK _ be])
   rfl rfl rfl rfl rfl rfl rfl (λo j=>by have:=e' j;omega) rfl
   ⟨a0.x,a0.x,a0.x,a0.x,a0.x,a0.eval (bK:=[]) bv a3.nil a ?_,a0.x,a0.x,a0.x,a0.x,a0.x,a0.x,a0.eval (bK:=[]) bv a3.nil a ?_,a0.x,a0.x,M,M,M,M,M,M,M⟩
   (λbe=>⟨a0.x,a0.x,a0.x,a0.x,a0.x,a0.eval (bK:=[]) bv a3.nil a ?_,a0.x,a0.x,a0.x,a0.x,a0.x,a0.x,a0.eval (bK:=[]) bv a3.nil a ?_,a0.x,a0.x,M,a0.x,a0.x,M⟩)
   (d'.eU a (d_.fZ (ME a) a a a v Cx (Dy _ _))) ?_
  .exact bx
  .exact bx
  .exact bx
  .exact bx
  rw[t];rw[t]at v be;generalize F:d.1.getD f (0,[])=r at *;intro w;refine a_ [904] a ?_ ?_
  .simp only[V,show nS.bytes=32 from a,bn,bl];grind
  refine g.fb (cg.hz (l:=7) (p:=c r.2) (b':=w.1.1) (O:=w.1.2) a v) λW=>?_;refine g.hf 6 7 cz a a (λ_ _ j=>j.1) (ea.add (h'.up J J J)) ?_;have ak:=Tv (aB:=d.1) (be:=n) (f:=f) (ai:=cT w.1.1 (d.1.getD f (0,[])).2.length);rw[F]at *;refine a8 a bH (g.av (f+1,ly n f (cT w.1.1 (c r.2))) a Q K3 J ?_);grind
 obtain rfl:f=c d.1:=x;refine b6 [-20] a Q (g.aA ?_);refine cq a M (g.aN 7 (λf=>f<=c d.2.1) (λf:Nat=>[(1,ba 0 0),(2,ba 1 0),(3,ba 5 0),(5,S f)]) (λf=>vD d (c d.1) (js d.1 n) f (d.2.1.take f) (h' d.1 n (c d.1))) (λf=>c d.2.1-f) 0 a Q a Q a x ?_);intro f u;by_cases j:f<c d.2.1
 .have X:d.2.1.getD f (0,[])∈d.2.1:=J;have t:d.2.1.getD (f:Int).toNat cG.N=d.2.1.getD f (0,[]):=J;have be:=B _ X;have ak:=cG.dj d.2.1 j (0,[]);generalize d.2.1.getD f (0,[])=h at *;refine b6 [47,910] a bx ?_;rw[t];refine g.cP 7 1 135 2 (cP.fn []) a a ?_;refine cq a M (g.aN 9 (λe=>e<=c h.2) (λe:Nat=>[(1,ba 0 0),(2,ba 1 0),(3,ba 5 0),(5,S f),(6,ba 7 0),(7,S e)]) (λe=>vD d (c d.1) (js d.1 n) f (d.2.1.take f) (h' d.1 n (c d.1))++[.cells 65 [.c (.int .i64 h.1),.q 8 2 e (cP.fn (h.2.take e))],.q 135 2 e (cP.fn (h.2.take e))]) (λe=>c h.2-e) 0 a Q a Q a x ?_);intro e A;by_cases R:e<c h.2
  .have z:h.2.getD (e:Int).toNat cP.N=h.2.getD e ([],[]):=J;have D:=be.2 (h.2.getD e ([],[])) J;have T:=cP.dj h.2 R ([],[]);refine b6 [66,2000085] a ?_ (g.av (e+1) a ?_ ?_ ?_ ?_)
   .simp only[V,t,z,a9,show wc.bytes=40 from a,show fh.bytes=8 from a,bM,oD,bn,bl];exact e_
   .simp
   .simp only[V.W,V,t,z,sX,cX,bl,bn];and_intros<;>first|exactλ_ _=>rfl|exact T|rfl
   .grind
   omega
  obtain rfl:e=c h.2:=x;rw[eB];refine b6 [-66] a ?_ (g.aA ?_)
  .simp only[V,t,d6];exact e_
  refine cq a Jp (g.av (f+1) a Q K3 J ?_);omega
 obtain rfl:f=c d.2.1:=x;rw[eB];refine b6 [-47] a Q (g.aA ?_);refine cq a M (g.cc n [2,3,4,6] ?_ (λe A=>absurd A Q));simp
def Qx(d:e bq)(A:bq)(z:c d<=4000000):ad q 104 [bS.M d,zw A] [] (.k (.S (.q 0 2 (c (eo d A)) (bS.fn (eo d A))))) [.q 87 2 (c (eo d A)) (bS.fn (eo d A))]:=by
 refine ad.E func104 rfl λy=>?_;refine b6 [902] a M (g.bH 5 87 2 a a ?_);refine cq a M (g.aN 2 (λf=>f<=c d) (λf:Nat=>GW d A f (hg A d f)) (λf=>AU A (hg A d f).1) (λf=>c d-f) 0 a ?_ a ?_ a x ?_)
 .simp[hg]
 .simp[hg]
 intro f v;by_cases t:f<c d
 .have n:=CN (A:=A) t;have j:=vc A d f;have X:d.getD (f:Int).toNat bS.N=d.getD f (0,[]):=J;generalize hg A d f=h at n j;obtain⟨h,p⟩:=h;simp only at j;have a2:=bS.aZ h (d.getD f (0,[]));have s:=bS.e' h A (d.getD f (0,[]));cases p with
  |true=>
   have u:hg A d (f+1)=(h++[d.getD f (0,[])],i):=n;have o:c h+1=c (h++[d.getD f (0,[])]):=Q;refine b6 [12] a ?_ (g.av (f+1) a ?_ ?_ ?_ ?_)
   .simp only[V,X,a9,show kk.bytes=24 from a,bM,bn,bl];exact e_
   .exact JZ
   .exact K_
   .grind
   omega
  |false=>
   by_cases l:A.1<(d.getD f (0,[])).1
   .have u:hg A d (f+1)=(h++[A,d.getD f (0,[])],i):=by rw[n];simp only[ha,bF l];rfl
    have o:c h+1+1=c (h++[A,d.getD f (0,[])]):=Q;refine b6 [12,25] a ?_ (g.av (f+1) a ?_ ?_ ?_ ?_)
    .simp only[V,X,a9,show kk.bytes=24 from a,l,l0,bM,bn,bl];exact e_
    .rw[u];simp only[V.W,V,X,bn,bl];and_intros<;>first|exact o|exact s|simp|rfl|omega
    .rw[u];simp only[V.W,V,X,bn,bl];and_intros<;>first|exact o|exact s|exactλ_ _=>rfl|rfl|omega
    .grind
    omega
   have u:hg A d (f+1)=(h++[d.getD f (0,[])],m):=by rw[n];simp only[ha,bp l];rfl
   have o:c h+1=c (h++[d.getD f (0,[])]):=Q;refine b6 [12,-25] a ?_ (g.av (f+1) a ?_ ?_ ?_ ?_)
   .simp only[V,X,a9,show kk.bytes=24 from a,bM,l,lX,nB,d6,bn,bl];exact e_
   .exact JZ
   .exact K_
   .grind
   omega
 obtain rfl:f=c d:=x;have N:=Bz A d [];have j:=vc A d (c d);refine b6 [-12] a Q (g.aA ?_);have w:hg A d (c d)=d.foldl (ha A) ([],m):=J;rw[w]at j⊢;generalize d.foldl (ha A) ([],m)=h at *;obtain⟨h,p⟩:=h;simp only[nx]at N j;cases p with
 |true=>
  simp only[cN]at N;subst N;exact J4
 |false=>
  simp only[jF,cr]at N;have a2:=bS.aZ h A;refine b6 [912] a Jq ?_;have r:c (h++[A])=c h+1:=Q;refine g.dF (c':=[(5,.k (.S (.q 1 2 (c (h++[A])) (bS.fn (h++[A])))))]) (aO:=AU A (h++[A])) ?_ a ?_ a ?_
  .rw[<-N];exact J4
  .exact Jk
  exact Jk
def Qy[q.bT](a:e bq)(d:bq)(h:c a<=4000000):bG (ι:=np (eo a d)) q 104 [bS.M a,zw d] [] (λg=>aL (n4 (eo a d) g)) (λg=>[rK (eo a d) g]):=
 ad.thaw (Qx a d h) func104 rfl (by simp[wF,rJ,o3]) λj f=>⟨rfl,Dy _ _ j f⟩
def Gw(a:Int)(L:e bq):Option (np L)->e bq->e Y
 |none,f=>[.cells 61 [.c (.int .i64 0),.c (.M i 0 0 λ_=>[])],Tp a f,.Q (cg 87 2 (.nil k) 0 [])]
 |some d,_=>[.cells 61 [.c (.int .i64 0),.c (.M i 0 0 λ_=>[])],.cells 61 [.c (.int .i64 a),.c (n4 L d)],rK L d]
def PV[q.bT](n o:Int)(d:e an)(r:cB o=i)(N:∀B∈d,cp B=i)(X:c d<=4000000)(C:0<c d):
  bG (ι:=np (eH o d)) q 53 [S n,S o,bD.M d] [] (λh=>.k (.agg [.c (.int .i64 n),.c (n4 (eH o d) h)])) (λh=>[rK (eH o d) h]):=by
 refine bG.c5 bv func53 rfl rfl rfl λW=>?_;have t:a3 q [(100,tb),(105,vw),(104,DQ)]:=.cons un (.cons BI (.cons V6 .nil));refine bs t [902] a M (g.fB 87 2 ?_);refine c0 t a M (g.aN 3 (λl:Option (np (eH o d))×Nat=>l.2<=c d/\(l.1.isSome=i↔l.2=c d)) (λl=>[(1,S o),(2,bD.M d),(6,ba 0 0),(7,ba 1 0),(8,S l.2)]) (λl=>Gw n (eH o d) l.1 (eH o (d.take l.2))) (λl=>c d-l.2) (k,0) a Q a ?_ a ⟨jG _,by grind⟩ ?_)
 .simp[eH]
 rintro⟨h,f⟩ ⟨y,D⟩;simp only at y D;cases h with
 |some h=>
  obtain rfl:f=c d:=D.1 rfl;refine bs t [-15] a Q (g.aA ?_);refine c0 t a M (g.cc h [2] ?_ (λu R=>absurd R Q));simp
 |none=>
  have p:f<c d:=J;have v:d.getD (f:Int).toNat bD.N=d.getD f []:=J;have w:cp (d.getD f [])=i:=N _ J;have O:=SM (o:=o) p;have I:=rG o (d.take f);rw[List.length_take]at I;by_cases T:f+1<c d
  .refine bs t [15] a ?_ (g.av (k,f+1) a ?_ ?_ ?_ ?_)
   .simp only[V,v,r,w,a9,bS.aa,bM,bn,bl];and_intros<;>first|exact bS.ad _|omega
   .simp
   .show V _;rw[O];simp only[V.W,V,v,bS.aa,bn,bl];and_intros<;>first|simp|rfl|omega
   .grind
   grind
  have U:f+1=c d:=x;have E:eH o d=eo (eH o (d.take f)) (dF o (d.getD f []),eY (d.getD f [])):=J;refine bs t [15,905] a bx ?_;have z:=Qy (q:=q) (eH o (d.take f)) (dF o (d.getD f []),eY (d.getD f [])) x;rw[<-E]at z;have j:a3 q [(100,tb),(105,vw)]:=.cons un (.cons BI .nil);generalize F:d.getD f []=B at *;generalize eH o (d.take f)=A at *;refine g.eV (ι:=np (eH o d)) c5 14 15 16 (λu=>aD u 13)
   (λu=>([ba 1 1,bS.M A,S o,bD.M d,S f,q_ [.R (d.getD (f:Int).toNat bD.N)],bC (d.getD (f:Int).toNat bD.N),S (dF o (d.getD (f:Int).toNat bD.N)),bD.M d,S f,q_ [.R (d.getD (f:Int).toNat bD.N)],bC (d.getD (f:Int).toNat bD.N),bC (eY (d.getD (f:Int).toNat bD.N)),.k (.agg [.c (.int .i64 (dF o (d.getD (f:Int).toNat bD.N))),.c (.R (eY (d.getD (f:Int).toNat bD.N)))])]:e s).getD u .any)
   (λh _=>aL (n4 (eH o d) h)) (λh=>Gw n (eH o d) k A++[rK (eH o d) h])
   rfl rfl rfl rfl rfl rfl rfl (λu p=>by have:=e' p;omega) rfl
   ⟨a0.x,a0.x,a0.x,a0.x,a0.x,a0.eval (bK:=[]) bv j a ?_,a0.x,a0.eval (bK:=[]) bv j a ?_,a0.x,a0.x,a0.eval (bK:=[]) bv j a ?_,a0.x,a0.eval (bK:=[]) bv j a ?_,a0.x,M,M,M,M⟩
   (λh=>⟨a0.x,a0.x,a0.x,a0.x,a0.x,a0.eval (bK:=[]) bv j a ?_,a0.x,a0.eval (bK:=[]) bv j a ?_,a0.x,a0.x,a0.eval (bK:=[]) bv j a ?_,a0.x,a0.eval (bK:=[]) bv j a ?_,a0.x,M,M⟩)
   (d'.eh (F▸z) [] a a a a a a a bN a bN) ?_
  all_goals first|(simp only[V,v,r,w,bl,bn];omega)|(simp only[V.W,V,v,r,w,and_self];done)|skip
  intro K;refine bs j [904] a M (g.swap 2 3 cz a a (λ_ _ p=>p.1) (λ_ _ p=>p.1) ?_);refine c0 j a bH (g.av (b K,f+1) a Q Q J ?_);grind
def wu{j l:Z}{f g:Int}(e:Int)(p:r.op=.call {callee:=.builtin .max,args:=#[j,l],argTypes:=dK})(w:η j=S f)(u:η l=S g)(z:max f g=e)(v:a9 .i64 e):aR R r η h (S e) h:=by refine .aS λB s A n=>?_;have d:=n j;have a:=n l;rw[w]at d;rw[u]at a;replace d:=b2 d;replace a:=b2 a;generalize o:s j=x at d;generalize q:s l=y at a;cases d;cases a;have t:(if f<g then g else f)=e:=J;exact⟨.int .i64 e,by simp[W,p,resolve,invoke,builtin,o,q,Builtin.max_,Builtin.max2,t],.int v,by simp[W,p,resolve,invoke,builtin,o,q,Builtin.max_,Builtin.max2]⟩
def cV(a:bP):Int:=if c a.1=0 then 1 else(a.1.getD (c a.1-1) (0,[])).1+1
def ln(d:e (Int×Int)):Int:=d.foldl (λf a=>max f (a.2+1)) 1
def dG(a:bP):Int:=if c a.2.1=0 then ln a.2.2 else max (ln a.2.2) ((a.2.1.getD (c a.2.1-1) (0,[])).1+1)
structure i6(cK:bP):Prop where
 aR:∀A∈cK.1,-4000000<=A.1/\A.1<=4000000
 cL:∀A∈cK.2.1,-4000000<=A.1/\A.1<=4000000
 bF:∀A∈cK.2.2,-4000000<=A.2/\A.2<=4000000
def rr(a:e (Int×Int))(g:∀f∈a,-4000000<=f.2/\f.2<=4000000):1<=ln a/\ln a<=4000001:=by
 have:∀(a:e (Int×Int)) (d:Int),(∀f∈a,-4000000<=f.2/\f.2<=4000000)->1<=d->d<=4000001->1<=a.foldl (λd g=>max d (g.2+1)) d/\a.foldl (λd g=>max d (g.2+1)) d<=4000001:=by
  intro a;induction a with
  |nil=>grind
  |cons f j h=>
   grind
 exact this a 1 g x x
def RM{a:e (Int×Int)}(d:f<c a):ln (a.take (f+1))=max (ln (a.take f)) ((a.getD f (0,0)).2+1):=by unfold ln;grind[ni]
def kF{a:e α}(g:f<c a)(d:α):a.getD f d∈a:=J
def P8(d:bP)(j:iB d)(h:i6 d):ad q 50 [fg d] [] (.C [.S (.c (.int .i64 (cV d))),.S (.c (.int .i64 (dG d)))]) []:=by
 refine ad.E func50 rfl λy=>?_;have v:=j.aR;have w:=j.bs;have u:=j.bF;apply g.b5 [(1,ba 0 0),(4,S (cV d)),(5,S 1)] [f_ d]
 .intro c8;by_cases f:c d.1=0
  .exact b6 [-10,905] a dX (c8 _ _ a (by simp[cV,f]))
  have l:=h.aR _ (kF (show c d.1-1<c d.1 by omega) (0,[]));have t:d.1.getD ((c d.1:Int)-1).toNat br.N=d.1.getD (c d.1-1) (0,[]):=by rw[show((c d.1:Int)-1).toNat=c d.1-1 by omega];rfl
  exact b6 [10,905] a uC (c8 _ _ a (by simp only[V.W,V,cV,bp f,t,bn,bl]))
 refine cq a M (g.aN 1 (λe=>e<=c d.2.2) (λe:Nat=>[(1,ba 0 0),(4,S (cV d)),(5,S (ln (d.2.2.take e))),(6,S e)]) (λe=>[f_ d]) (λe=>c d.2.2-e) 0 a ?_ a ?_ a x ?_)
 .simp[ln]
 .simp
 intro e n;by_cases f:e<c d.2.2
 .have l:=h.bF _ (kF f (0,0));have p:=rr (d.2.2.take e) λs r=>h.bF s (gE r);have t:d.2.2.getD (e:Int).toNat bV.N=d.2.2.getD e (0,0):=J;have o:=RM f;refine b6 [25] a uC ?_;rw[t];refine g.aI (wu (ln (d.2.2.take (e+1))) a a a o.symm mw) a a ?_;exact cq a bH (g.av (e+1) a Q Q J x)
 obtain rfl:e=c d.2.2:=x;rw[eB];refine b6 [-25] a Q (g.aA ?_);have p:=rr d.2.2 h.bF;by_cases f:c d.2.1=0
 .refine b6 [-40] a dX (g.an a ?_);simp[dG,f]
 have l:=h.cL _ (kF (show c d.2.1-1<c d.2.1 by omega) (0,[]));have t:d.2.1.getD ((c d.2.1:Int)-1).toNat cG.N=d.2.1.getD (c d.2.1-1) (0,[]):=LD;refine b6 [40] a uC ?_;rw[t];refine g.aI (wu (dG d) a a a (by rw[dG,bp f]) (by rw[dG,bp f];simp only[a9];omega)) a a ?_;exact cq a M (g.an a)
abbrev zq(a:bP)(d:Nat)(g:e bU)(f:Nat)(h:e fE):e Y:=[f_ a,.cells 27 [eu,eu,eu],.q 104 2 (c a.2.2) (bV.fn a.2.2),.cells 27 [.q 4 2 d (br.fn g),.q 5 2 f (cG.fn h),.q 2 2 (c a.2.2) (bV.fn a.2.2)],.q 61 2 d (br.fn g),.q 65 2 f (cG.fn h)]
def OB(d:bP)(z:c d.1<=4000000)(u:∀y∈d.1,c y.2<=4000000)(D:c d.2.1<=4000000)(s:oa d)(C:c d.2.2<=4000000):
  ad q 49 [fg d] [] (.k (.agg [.q 0 2 (c d.1) (br.fn d.1),.q 1 2 (c d.2.1) (cG.fn d.2.1),.q 2 2 (c d.2.2) (bV.fn d.2.2)])) [.q 61 2 (c d.1) (br.fn d.1),.q 65 2 (c d.2.1) (cG.fn d.2.1),.q 104 2 (c d.2.2) (bV.fn d.2.2)]:=by
 refine ad.cS bv func49 rfl rfl rfl λA=>?_;refine b6 [902] a ?_ ?_
 .simp only[V,show tB.bytes=16 from a,bn,bl,oD];grind
 refine g.cP 3 0 61 2 (br.fn []) a a ?_;refine g.cP 3 1 65 2 (cG.fn []) a a ?_;refine cq a M (g.aN 6 (λe=>e<=c d.1) (λe:Nat=>[(1,ba 0 0),(2,ba 1 0),(3,ba 3 0),(4,S e)]) (λe=>zq d e (d.1.take e) 0 []) (λe=>c d.1-e) 0 a Q a ?_ a x ?_)
 .simp[b4,sX]
 intro e o;by_cases n:e<c d.1
 .have l:d.1.getD e (0,[])∈d.1:=J;have t:d.1.getD (e:Int).toNat br.N=d.1.getD e (0,[]):=J;have r:=u _ l;refine b6 [20,2000038] a ?_ (g.av (e+1) a ?_ ?_ ?_ ?_)
  .simp only[V,t,a9,show nS.bytes=32 from a,show kk.bytes=24 from a,bM,oD,bn,bl];exact e_
  .simp
  .have ak:=br.dj d.1 n (0,[]);simp only[V.W,V,t,sX,cX,bl,bn];exact La
  .grind
  omega
 obtain rfl:e=c d.1:=x;rw[eB];refine b6 [-20] a Q (g.aA ?_);refine cq a M (g.aN 6 (λe=>e<=c d.2.1) (λe:Nat=>[(1,ba 0 0),(2,ba 1 0),(3,ba 3 0),(5,S e)]) (λe=>zq d (c d.1) d.1 e (d.2.1.take e)) (λe=>c d.2.1-e) 0 a Q a Q a x ?_);intro e o;by_cases n:e<c d.2.1
 .have l:d.2.1.getD e (0,[])∈d.2.1:=J;have t:d.2.1.getD (e:Int).toNat cG.N=d.2.1.getD e (0,[]):=J;have r:=s _ l;have ak:=cG.dj d.2.1 n (0,[]);generalize d.2.1.getD e (0,[])=h at *;refine b6 [47,910] a bx ?_;rw[t];refine g.cP 6 1 135 2 (cP.fn []) a a ?_;refine cq a M (g.aN 8 (λf=>f<=c h.2) (λf:Nat=>[(1,ba 0 0),(2,ba 1 0),(3,ba 3 0),(5,S e),(6,ba 6 0),(7,S f)]) (λf=>zq d (c d.1) d.1 e (d.2.1.take e)++[.cells 65 [.c (.int .i64 h.1),.q 7 2 f (cP.fn (h.2.take f))],.q 135 2 f (cP.fn (h.2.take f))]) (λf=>c h.2-f) 0 a Q a Q a x ?_);intro f p;by_cases v:f<c h.2
  .have j:h.2.getD (f:Int).toNat cP.N=h.2.getD f ([],[]):=J;have B:=r.2 (h.2.getD f ([],[])) J;have w:=cP.dj h.2 v ([],[]);refine b6 [66,2000085] a ?_ (g.av (f+1) a ?_ ?_ ?_ ?_)
   .simp only[V,t,j,a9,show wc.bytes=40 from a,show fh.bytes=8 from a,bM,oD,bn,bl];exact e_
   .simp
   .simp only[V.W,V,t,j,sX,cX,bl,bn];and_intros<;>first|exactλ_ _=>rfl|exact w|rfl
   .grind
   omega
  obtain rfl:f=c h.2:=x;rw[eB];refine b6 [-66] a ?_ (g.aA ?_)
  .simp only[V,t,d6];exact e_
  refine cq a Jp (g.av (e+1) a Q ?_ ?_ ?_)
  .simp only[V.W,V,bl,bn];exact La
  .grind
  omega
 obtain rfl:e=c d.2.1:=x;rw[eB];refine b6 [-47] a Q (g.aA ?_);refine cq a M (g.cc () [4,5,2] ?_ (λf p=>absurd p Q));simp
def SK(a d:Nat):min (a:Int) (d:Int)=((min a d:Nat):Int):=J
def e5(f:Int):Nat->Int->e an->e bU
 |0,_,_=>[]
 |g+1,d,a=>if 0<c a then jR d f (a.take 4)::e5 f g (d+1) (a.drop 4)else[]
def jo(a:Int)(d:bP)(f:e a'):e bU:=e5 a (c (e6 a f (dV d.1))) (cV d) (e6 a f (dV d.1))
def fI(d:Int)(a:bP)(f:e a'):Bool:=decide (20<c a.1+c (jo d a f))||(decide (99<cV a+c (jo d a f)-1)||(decide (20<dG a)||decide (9<=c a.2.2)))
def c_(f:Int)(a:bP)(d:Int)(g:e a'):bP:=(a.1++jo f a g,a.2.1++[f' (dG a) f g],a.2.2++[(d,dG a)])
theorem G4(f:Int):∀e a d,c (e5 f e a d)<=e
 |0,_,_=>bE _
 |e+1,a,d=>by
  simp only[e5];split
  .have:=G4 f e (a+1) (d.drop 4);grind
  simp
abbrev DJ:bB:=jJ dc dc (fQ bf) (λd a e=>mT (f' d a e)) λ_ a e=>[cB a=i,nm e]
def VV:bI q 54 DJ:=.cJ λa e f d=>P' a e f d.1 d.2
abbrev DI:bB:=jJ dc (fQ bf) (fQ eS) (λa e d=>bD.M (e6 a e d)) λa e d=>[cB a=i,nm e,c d<=4000000]
def VU:bI q 51 DI:=.cJ λd f e a=>P6 d f e a.1 a.2.1 a.2.2
def ob{g:e a'}{l:e cJ}(j:nm g):(∀a∈e6 o g l,cp a=i)/\c (e6 o g l)<=100000:=by
 constructor
 .have:∀(d h:e an),(∀a∈d,cp a=i)->(∀a∈h,cp a=i)->∀a∈d.foldl (eP o l) h,cp a=i:=by
   intro d;induction d with
   |nil=>grind
   |cons t u p=>
    intro h s r;refine p _ (λa f=>s a (k2 _ f)) λa f=>?_;unfold eP at f;grind
  refine this _ [] (λa f=>?_) Q;obtain⟨q,n,f⟩:=nw.1 f;exact tZ (j.ed q n).1 a f
 have:=z8 o l (eC g) [];have r:=j.all;unfold e6;simp only[gX]at this;exact i_ this x
theorem F7{a:e bU}(d:c (dk a)<=100000):c (dV a)<=100000:=by unfold dV;grind[z9]
abbrev BJ(a:bP)(d:Bool):s:=.C [.agg [.c (.M m 2 (c a.1) (br.fn a.1)),.c (.M m 2 (c a.2.1) (cG.fn a.2.1)),.c (.M m 2 (c a.2.2) (bV.fn a.2.2))],.S (.c (.bool d))]
def h'.eY{aB:e bU}{A:bU}{be:Nat->I}{b':dy}(t:0<c A.2)(s:fM 2 (c A.2) (bS.fn A.2) O)(u:∃l a,b'=.row l a/\c A.2<=a/\a<=9223372036854775807):
  ∀j d,pt j d->h' aB be (c aB) j->(∀l a,b'=.row l a->∀g r,O[g]?=b r->d l g=b r)->h' (aB++[A]) (ly be (c aB) (cT b' (c A.2))) (c (aB++[A])) d:=by
 intro j d h o q;have v:(aB++[A]).getD (c aB) (0,[])=A:=Q
 have w:=h'.up (aB:=aB++[A]) (be:=be) (f:=c aB) (b':=b') (O:=O) J J J j d h (λg p=>by
  have n:(aB++[A]).getD g (0,[])=aB.getD g (0,[]):=J
  rw[n];exact o g p) q
 grind
def Tw{aB:e bU}{A:bU}{be:Nat->I}:b4 (c aB+1) (b_ (c aB) (js aB be) (λa=>([[.int .i64 A.1,.val ai]]:e (e D)).getD a [])) (js (aB++[A]) (ly be (c aB) ai)):=by
 intro a h;by_cases g:a<c aB
 .have d:(aB++[A]).getD a (0,[])=aB.getD a (0,[]):=J;simp only[b_,g,cN,js,ly,d,bp (show a≠c aB by omega)]
 obtain rfl:a=c aB:=x;have f:(aB++[A]).getD (c aB) (0,[])=A:=Q;simp only[b_,js,ly,f,cN];simp
abbrev U9(g d f:Int)(h:bP)(j:e a')(a:e an):bd:=[(0,S g),(2,S d),(3,bf.M j),(5,ba 0 0),(8,ba 1 0),(10,ba 6 0),(11,S f),(12,S (dG h)),(13,bD.M a)]
abbrev xl(d:bP)(a:e bU)(f:Nat->I):e Y:=[f_ d,.cells 27 [eu,eu,eu],.A 61 2 (c a) (js a f),.A 65 2 (c d.2.1) (cG.fn d.2.1),.A 104 2 (c d.2.2) (bV.fn d.2.2),.Q (ea (h' a f (c a))),.cells 27 [.ak 2 (.M (c a) 2 0 (c a)),.ak 3 (.M (c d.2.1) 2 0 (c d.2.1)),.ak 4 (.M (c d.2.2) 2 0 (c d.2.2))]]
def zN[q.bT](o:Int)(d:bP)(f:Int)(n:e a')(R:cB o=i)(u:iB d)(Y:i6 d)(aw:nm n)(aM:c (dk d.1)<=100000)(aQ:∀B∈d.1,0<c B.2){X:Bool}(L:fI o d n=X):
  bG (ι:=Nat->I) q 19 [S o,fg d,S f,bf.M n] [] (λ_=>cond X (BJ d m) (.C [.agg [.ak 0 (.M (c_ o d f n).1.length 2 0 (c_ o d f n).1.length),.c (jX (c_ o d f n).2.1),.c (iZ (c_ o d f n).2.2)],.S (.c (.bool i))]))
   (λbe=>cond X [] [.A 61 2 (c_ o d f n).1.length (js (c_ o d f n).1 be),.Q (ea (h' (c_ o d f n).1 be (c_ o d f n).1.length))]):=by
 refine bG.c5 bv func19 rfl rfl rfl λa2=>?_;have t:a3 q [(52,Dw),(51,DI),(54,DJ)]:=.cons VH (.cons VU (.cons VV .nil));have aV:=u.aR;have aY:=u.bs;have aZ:=u.bF;have P:=F7 aM;refine c0 t a M (g.a4 (OA d aQ u.aR u.df u.bs u.cy u.bF) [] a bN λaP=>?_);refine c0 t a M (g.aF (P8 d u Y) [] a (c0 t a bH ?_));simp only[br.aa,eS.aa,bf.aa];obtain⟨aN,bb⟩:=ob (o:=o) (l:=dV d.1) aw;have a1:jo o d n=e5 o (c (e6 o n (dV d.1))) (cV d) (e6 o n (dV d.1)):=rfl;generalize e6 o n (dV d.1)=T at *;generalize ax:jo o d n=j at *;have aA:-4000000<=cV d/\cV d<=4000001:=by
  unfold cV;split
  .omega
  rename_i F;have:=Y.aR _ (kF (show c d.1-1<c d.1 by omega) (0,[]));omega
 have az:c j<=100000:=by grind[G4]
 refine g.b4 (S2:=Nat->I) 0 a a (λ_=>True) (λ_=>[(0,S o),(2,S f),(3,bf.M n),(5,ba 0 0),(8,ba 1 0),(10,ba 6 0),(11,S (cV d+c j)),(12,S (dG d))]) (λbe=>xl d (d.1++j) be) 7
  (λA:e an×e bU×(Nat->I)=>(∀B∈A.1,cp B=i)/\c A.2.1+c A.1<=5000000/\c d.1<=c A.2.1/\∃E,c A.1<=E/\d.1++j=A.2.1++e5 o E (cV d+(c A.2.1-c d.1:Nat)) A.1) (λA=>U9 o f (cV d+(c A.2.1-c d.1:Nat)) d n A.1) (λA=>xl d A.2.1 A.2.2) (λA=>c A.1) (T,d.1,aP) a ?_ a ?_ a ⟨aN,by grind,bE _,c T,bE _,by grind⟩ ?_ ?_
 .simp
 .simp
 .rintro c8 ⟨bw,aB,be⟩ ⟨ab,ak,aR,E,al,H⟩;simp only at ab ak aR al H;by_cases F:0<c bw
  .obtain⟨E,rfl⟩:∃aj,E=aj+1:=⟨E-1,by omega⟩
   simp only[e5,bF F]at H;have au:a9 .i64 ((min (c bw) 4:Nat):Int):=mw;refine bs t [30] a bx (g.aI (ww ((min (c bw) 4:Nat):Int) a a a (SK (c bw) 4) au) a a ?_);have ad:cE (c bw) (b ((min (c bw) 4:Nat):Int))-cE 0 k=min (c bw) 4:=by simp[cE]
   have aT:b4 (c bw-min (c bw) 4) (gR (min (c bw) 4) (bD.fn bw)) (bD.fn (bw.drop 4)):=by intro a4 N;have ao:min (c bw) 4=4:=x;rw[ao];simp only[gR,dO.fn,hH,av,ow]
   have aG:b4 (cE (c bw) (b ((min (c bw) 4:Nat):Int))-cE 0 k) (gR (cE 0 k) (bD.fn bw)) (bD.fn (bw.take 4)):=by intro a4 N;rw[ad]at N;simp only[gR,cE,dO.fn,hH,av,cX];grind
   have bc:c (bw.take 4)=min (c bw) 4:=J;have G:∀B∈bw.take 4,cp B=i:=λB Z=>ab B (gE Z);have aK:=PV (q:=q) (cV d+(c aB-c d.1:Nat)) o (bw.take 4) R G x x;have aF:jR (cV d+(c aB-c d.1:Nat)) o (bw.take 4)=(cV d+(c aB-c d.1:Nat),eH o (bw.take 4)):=rfl;have aH:0<c (eH o (bw.take 4)):=by grind[rG]
   generalize aq:cV d+(c aB-c d.1:Nat)=r at *;have a7:-5000000<=r/\r<=10000000:=x;generalize ay:eH o (bw.take 4)=h at *;refine bs t [906] a M ?_;refine g.eV (ι:=np h) c5 7 9 12 (λz=>aD z 6)
    (λz=>([ba 6 0,dR 2 (.M (c aB) 2 0 (c aB)),S r,S o,bD.M bw,S (min (c bw) 4:Nat),aL (.M m 1 (cE (c bw) (b ((min (c bw) 4:Nat):Int))-cE 0 k) (gR (cE 0 k) (bD.fn bw)))]:e s).getD z .any)
    (λw z=>match z with|7=>.k (.agg [.c (.int .i64 r),.c (n4 h w)])|_=>.k (.S (.c (.M i 2 1 (λz=>([[.int .i64 r,n4 h w]]:e (e D)).getD z []))))) (λw=>xl d aB be++[rK h w])
    rfl rfl rfl rfl rfl rfl rfl (λz F=>by have:=e' F;omega) rfl
    ⟨a0.x,a0.x,a0.x,a0.x,a0.x,a0.x,a0.eval (bK:=[]) bv t a ?_,M,M,M,M,M,M⟩
    (λw=>⟨a0.x,a0.x,a0.x,a0.x,a0.x,a0.x,a0.eval (bK:=[]) bv t a ?_,M,a0.x,M⟩)
    (d'.cp aK [] a a a a ?_ a a a bN a bN) ?_
   .exact uG
   .exact uG
   .simp only[V.W,V,bn,bl];grind
   intro w;refine bs t [907] a ?_ ?_
   .simp only[V,show nS.bytes=32 from a,bn];omega
   refine g.fb (cg.hz (l:=7) (p:=c h) (b':=w.1.1) (O:=w.1.2) a aH) λaS=>?_;refine g.hf 5 7 cz a a (λ_ _ F=>F.1) (ea.add (h'.eY (A:=(r,h)) aH w.2 aS)) ?_;have U:=Tw (aB:=aB) (A:=(r,h)) (be:=be) (ai:=cT w.1.1 (c h));have aJ:c (aB++[(r,h)])=c aB+1:=Q;refine c0 t a ?_ (g.av (bw.drop 4,aB++[(r,h)],ly be (c aB) (cT w.1.1 (c h))) a ?_ ?_ ?_ ?_)
   .simp only[V,a9,ib];omega
   .simp only[V.W,V,aJ,u2,cE,dB,bn,bl];and_intros<;>first|rfl|omega|simp|exact aT
   .simp only[V.W,V,aJ,bn,bl];and_intros<;>first|rfl|exactλ_ _=>rfl|exact U|omega
   .refine⟨λB Z=>ab B (pA Z),by grind,by grind,E,by grind,?_⟩;grind
   grind
  have U:aB=d.1++j:=by rw[H];cases E<;>simp[e5,F]
  refine bs t [-30] a bH (g.aA ?_);refine c8 be M a ?_ a ?_
  .simp only[V.W,V,U,dZ,bn,bl];and_intros<;>first|rfl|omega|simp
  simp[U]
 rintro be -;have K:fI o d n=(decide (20<c d.1+c j)||(decide (99<cV d+c j-1)||(decide (20<dG d)||decide (9<=c d.2.2)))):=by unfold fI;rw[ax]
 rw[L]at K;have W:c (d.1++j)=c d.1+c j:=dZ;have aC:-4000000<=dG d/\dG d<=4000001:=by
  have:=rr d.2.2 Y.bF;unfold dG;split
  .omega
  have:=Y.cL _ (kF (show c d.2.1-1<c d.2.1 by omega) (0,[]));omega
 cases X with
 |true=>
  apply g.b5 [(5,ba 0 0),(8,ba 1 0)] (xl d (d.1++j) be)
  .intro c8;by_cases ae:20<c d.1+c j
   .refine bs t [53,910] a ?_ (c8 _ _ a Q);exact bx
   by_cases af:99<cV d+c j-1
   .refine bs t [-53,57,910] a ?_ (c8 _ _ a Q);simp[W,a9];omega
   by_cases ag:20<dG d
   .refine bs t [-53,-57,61,910] a ?_ (c8 _ _ a Q);simp[W,a9];omega
   refine bs t [-53,-57,-61,67,910] a ?_ (c8 _ _ a Q);simp[W,a9];grind
  refine c0 t a M (g.aF (OB d u.aR u.df u.bs u.cy u.bF) [] a (c0 t a M (g.dD be [] ?_ ro)));simp
 |false=>
 have K:=K.symm;simp only[qE,d6]at K;obtain⟨ae,af,ag,aU⟩:=K;have ad:=cG.aZ d.2.1 (f' (dG d) o n);have ah:=bV.aZ d.2.2 (f,dG d);have C:c_ o d f n=(d.1++j,d.2.1++[f' (dG d) o n],d.2.2++[(f,dG d)]):=by unfold c_;rw[ax]
 rw[C];refine bs t [-53,-57,-61,-67,913] a ?_ ?_
 .simp only[V,R,bf.aa,W,a9,show we.bytes=32 from a,show tB.bytes=16 from a,bM,d6,bn,bl];and_intros<;>first|exact aw|exact bf.ad _|rfl|omega
 generalize d.1++j=aB at *;generalize aE:d.2.1++[f' (dG d) o n]=y at *;generalize a_:d.2.2++[(f,dG d)]=v at *;have a6:c y=c d.2.1+1:=J;have a5:c v=c d.2.2+1:=J;refine g.dF (c':=[(8,ba 1 0),(10,ba 6 0)]) (aO:=[f_ d,.cells 27 [eu,eu,eu],.A 61 2 (c aB) (js aB be),.A 65 2 (c y) (cG.fn y),.A 104 2 (c v) (bV.fn v),.Q (ea (h' aB be (c aB))),.cells 27 [.ak 2 (.M (c aB) 2 0 (c aB)),.ak 3 (.M (c y) 2 0 (c y)),.ak 4 (.M (c v) 2 0 (c v))]]) ?_ a ?_ a ?_
 .refine g.cE 3 a a a Q Q (g.cE 4 a a a Q Q (a8 a M (g.dD be [2,5] ?_ (λz ar=>absurd ar Q))));simp[kn]
 .simp
 simp only[V.W,V,a6,a5,bf.aa,bn,bl];and_intros<;>first|exact b4.same|exact ad|exact ah|rfl
abbrev pv(f:I)(a:e bU):Mem->Prop:=λd=>Rd d f (.M m 2 (c a) (br.fn a))
def E7[q.bT](h:Int)(f:bP)(d:Int)(j:e a')(t:cB h=i)(D:iB f)(E:i6 f)(C:nm j)(x:c (dk f.1)<=100000)(B:∀u∈f.1,0<c u.2)(z:fI h f j=m):
  bG (ι:=I) q 19 [S h,fg f,S d,bf.M j] [.Q (cg 61 2 (.nil k) 0 [])] (λr=>.C [.agg [.c (.val r),.c (jX (c_ h f d j).2.1),.c (iZ (c_ h f d j).2.2)],.S (.c (.bool i))])
   (λr=>[.Q (ea (pv r (c_ h f d j).1))]):=by
 refine bG.iY (bG.jH (br.fn (c_ h f d j).1) (zN h f d j t D E C x B z) (λF v w p g n s=>(g n s).mono p) λF v g n s=>?_) (λ_ _ _ l=>l.1) bN bN a a;have g:=g n s;generalize(c_ h f d j).1=aB at *;have y:br.fn aB n=[.int .i64 (aB.getD n (0,[])).1,jW (aB.getD n (0,[]))]:=rfl;rw[y];refine⟨a,λu J o=>?_⟩
 match u,o with
 |0,o=>cases o;exact⟨_,rfl,λr A l=>by cases l with|int l=>exact .int l⟩
 |1,o=>cases o;exact⟨_,a,λr A l=>by grind[Rd.aM]⟩
def Qu(d:an):ad q 209 [bC d] [] (bm (cp d)) []:=by
 refine ad.E func209 rfl λh=>?_;have f:a3 q [(17,oH),(97,vt)]:=.cons qm (.cons Io .nil);by_cases e:1<=c d/\c d<=8
 .refine a4 f [6] a cb (g.an a ?_);simp[cp,e.1,e.2]
 refine a4 f [-6] a cb (g.an a ?_);have:cp d=m:=by simp only[cp,<-Bool.decide_and,qJ e,sP]
 simp[this]
abbrev DN:bB:=df dT (λa=>bm (cp a)) λ_=>[]
def V1:bI q 209 DN:=.a3 λa _=>Qu a
def Ql(a:an):ad q 171 [bC a] [] (bC (eY a)) []:=by
 refine ad.E func171 rfl λe=>?_;have d:a3 q [(209,DN),(105,vw)]:=.cons V1 (.cons BI .nil);cases n:cp a with
 |true=>exact a4 d [-5] rfl hc (g.an rfl)
 |false=>exact a4 d [5] rfl hc (g.an rfl (by simp[eY,n]))
abbrev DL:bB:=df dT (λa=>bC (eY a)) λ_=>[]
def VZ:bI q 171 DL:=.a3 λa _=>Ql a
def Ti(d:an):c (eY d)<=8:=by
 unfold eY;split
 .rename_i a;simp only[cp,ct,bM]at a;grind[D9]
 simp
def Qj(e:an):ad q 138 [bC e] [] (hT (gT e)) []:=by
 refine ad.E func138 rfl λz=>?_;have B:=z.R 0 a;have r:a3 q [(171,DL)]:=.cons VZ .nil;refine a8 a M ?_;have fin:∀p,p<=c e->e8 (e.take p)=e8 e->(p=0∨e8 (e.take p)=e.take p)->e.take p=e8 e:=λp f v n=>by
  rcases n with rfl|n
  .exact bH
  grind
 have h:∀p,p<=c e->e.take p=e8 e->gT e=if c e<=8/\eY (e8 e)=e/\p≠0 then b (e.take p)else k:=λp f v=>by
  have C:=Ti (e8 e);have s:p=0↔e8 e=[]:=by grind[List.take_eq_nil_iff]
  unfold gT;rw[v];by_cases N:eY (e8 e)=e
  .by_cases o:cp (e8 e)=i
   .have:p≠0:=λw=>by rw[s.1 w]at o;cases o
    grind
   have w:p=0:=s.2 (by rw[eY,bp o]at N;grind);grind
  grind
 refine g.b4 (S2:=Nat) 0 a a (λp=>p<=c e/\e.take p=e8 e) (λp=>[(0,bC e),(4,S p)]) (λ_=>[]) 0 (λp=>p<=c e/\e8 (e.take p)=e8 e) (λp:Nat=>[(0,bC e),(4,S p)]) (λ_=>[]) (λp=>p) (c e) a Q a M a ⟨by omega,by simp⟩ ?_ ?_
 .rintro c8 p ⟨f,u⟩;rcases p with _|p
  .refine a_ [-9,-15] a Q (g.aA ?_);exact c8 0 ⟨f,fin 0 f u (.inl a)⟩ a Q a M
  have s:=Ih (d:=e) (p:=p) x;have ac:((p:Int)+1-1).toNat=p:=x;by_cases n:e.getD p 0=46
  .refine a_ [9,15] a ?_ (g.av p a ?_ M ⟨by omega,?_⟩ x)
   .have N:c9 e p=46:=by unfold c9;exact bH
    exact J6
   .simp
   grind
  refine a_ [9,-15] a ?_ (g.aA ?_)
  .have N:c9 e p≠46:=by unfold c9;intro A;exact n (sJ.1 J)
   exact J6
  exact c8 (p+1) ⟨f,fin _ f u (.inr J)⟩ a Q a M
 rintro p ⟨f,y⟩;have D:=h p f y;have t:lb e k (b (p:Int))=e8 e:=y▸rfl;have l:((c e:Int)<=8)↔c e<=8:=x;by_cases j:c e<=8
 .by_cases jc:eY (e8 e)=e
  .by_cases k_:p=0
   .refine a4 r [-21,-29,32] a ?_ (g.an a ?_)
    .subst k_;simp only[V,t,jc];grind
    exact bH
   refine a4 r [-21,-29,-32] a ?_ (g.an a ?_)
   .simp[t,l,j,jc,k_,f]
   exact bH
  refine a4 r [-21,29,32] a ?_ (g.an a ?_)
  .simp[t,l,j,jc,f]
  exact bH
 refine a4 r [21,29,32] a cb (g.an a ?_);exact bH
abbrev y3:bB:=df dT (λa=>hT (gT a)) λ_=>[]
def Is:bI q 138 y3:=.a3 λa _=>Qj a
def QE(d:Int)(e:bq)(a:cB d=i):ad q 93 [S d,zv e] [] (bm (right d e)) []:=by
 refine ad.E func93 rfl λh=>?_;have f:a3 q [(138,y3),(100,tb)]:=.cons Is (.cons un .nil);cases t:gT e.2 with
 |none=>exact a4 f [-14] rfl mx (g.an rfl (by simp[right,t]))
 |some j=>exact a4 f [14] rfl (by simp[t,a,G7 t]) (g.an rfl (by simp[right,t]))
abbrev y5:bB:=eK dc qC (λa d=>bm (right a d)) λa _=>[cB a=i]
def Iu:bI q 93 y5:=.bf λd e a=>QE d e a
def Pz(d:Int):ad q 44 [S d] [] (bm (cB d)) []:=by refine ad.E func44 rfl λf=>?_;have e:a3 q [(17,oH)]:=.cons qm .nil;exact cu e a M (g.an a (by simp[cB]))
abbrev s':bB:=df dc (λa=>bm (cB a)) λ_=>[]
def xn:bI q 44 s':=.a3 λa _=>Pz a
abbrev y1(a:bU):Y:=.cells 61 [.c (.int .i64 a.1),.c (jW a)]
def Qd(o:Int)(d:bU)(f:Int):ad q 172 [S o,l9 d,S f] [] (hT (gi o d f)) []:=by
 refine ad.E func172 rfl λv=>?_;have j:a3 q [(44,s'),(93,y5),(138,y3)]:=.cons xn (.cons Iu (.cons Is .nil));cases cI:cB o with
 |false=>
  refine a4 j [11] a qt (g.an a ?_);have:gi o d f=k:=by unfold gi hQ;grind
  simp[this]
 |true=>
 have y:=v.gx 1 a 1 a;refine a4 j [-11] a qt (g.aN 1 (λe=>e<=c d.2/\d.2.find? (λA=>A.1==f)=(d.2.drop e).find? (λA=>A.1==f)) (λe:Nat=>[(0,S o),(4,ba 0 0),(2,S f),(8,S e)]) (λ_=>[y1 d]) (λe=>c d.2-e) 0 a Q a Q a ⟨by omega,a⟩ ?_);rintro e ⟨u,h⟩;by_cases r:e<c d.2
 .have w:d.2.getD e bS.N=eF d e:=rfl;have s:d.2.drop e=eF d e::d.2.drop (e+1):=L3;rw[s,List.find?_cons]at h;by_cases n:(eF d e).1=f
  .rw[show((eF d e).1==f)=i by grind]at h;cases l:right o (eF d e)with
   |false=>
    have t:right o (f,(eF d e).2)=m:=n▸l;refine a4 j [16,26,34] a dX (g.aV (b3.zero a ?_));have p:gi o d f=k:=by have:=zd (o:=o) (A:=eF d e) cI;rw[l]at this;simp only[gi,h];simp_all
    simp[p]
   |true=>
    have t:right o (f,(eF d e).2)=i:=n▸l;refine a4 j [16,26,-34] a dX (g.aV (b3.zero a ?_));have p:gi o d f=gT (eF d e).2:=by simp only[gi,h,hQ];unfold right at l;grind
    simp_all
  rw[show((eF d e).1==f)=m by grind]at h;refine a4 j [16,-26] a ?_ (g.av (e+1) a Q Q ⟨r,h⟩ x);simp[-av,w,n,a9,r];omega
 obtain rfl:e=c d.2:=x;refine a4 j [-16] a Q (g.aA ?_);refine cu j a M (g.an a ?_);simp[gi,h]
abbrev DO:bB:=jJ dc (jD bS) dc (λa e d=>hT (gi a e d)) λ_ _ _=>[]
def V4:bI q 172 DO:=.cJ λa e d _=>Qd a e d
theorem AX(d:Int)(a:bU):ho d a=(decide (1<=a.1/\a.1<=99)&&cB d&&decide (1<=c a.2/\c a.2<=4)&&(aI (c a.2)).all (hr d a)):=by grind[AW]
def U0{U:bU}(a:f≠0):hr o U f=(right o (eF U f)&&decide ((eF U (f-1)).1<(eF U f).1)):=by unfold hr;grind
def Qg(o:Int)(U:bU):ad q 41 [S o,l9 U] [] (bm (ho o U)) []:=by
 refine ad.E func41 rfl λv=>?_;have e:a3 q [(17,oH),(44,s'),(93,y5)]:=.cons qm (.cons xn (.cons Iu .nil));have y:=v.gx 1 a 1 a;rw[AX];by_cases j:1<=U.1/\U.1<=99
 rotate_left
 .exact a4 e [10,14,21] a cb (g.an a bH)
 cases f:cB o
 .exact a4 e [-10,14,21] a dX (g.an a)
 by_cases l:1<=c U.2/\c U.2<=4
 rotate_left
 .exact a4 e [-10,-14,21] a bH (g.an a bx)
 refine a4 e [-10,-14,-21] a ky ?_;rw[gf j,gf l,gL,gL,gL];refine g.aN 1 (λd=>d<=c U.2/\∀t,t<d->hr o U t=i) (λd:Nat=>[(0,S o),(3,ba 0 0),(5,S d)]) (λ_=>[y1 U]) (λd=>c U.2-d) 0 a Q a Q a ⟨by omega,by omega⟩ ?_;rintro d ⟨u,p⟩;by_cases n:d<c U.2
 .have X:U.2.getD d bS.N=eF U d:=rfl;cases h:right o (eF U d)with
  |false=>
   refine a4 e [26,37,56] a dX (g.aV (b3.zero a ?_));rw[mQ n (by simp only[hr,h,sP])];simp
  |true=>
   by_cases s:d=0
   .subst s;refine a4 e [26,-37,-40,-56] a ?_ (g.av 1 a Q Q ⟨n,l2 p (by simp only[hr,h,gL];rfl)⟩ x);exact ky
   have r:U.2.getD (d-1) bS.N=eF U (d-1):=rfl;have z:=U0 (o:=o) (U:=U) s;by_cases w:(eF U (d-1)).1<(eF U d).1
   .refine a4 e [26,-37,40,-54,-56] a ?_ (g.av (d+1) a Q Q ⟨n,l2 p J⟩ x);simp[-av,X,r,h,f,n,w,a9];omega
   refine a4 e [26,-37,40,54,56] a ?_ (g.aV (b3.zero a ?_))
   .simp[-av,X,r,h,f,n,a9];omega
   exact ph
 obtain rfl:d=c U.2:=x;refine a4 e [-26] a Q (g.aA ?_);exact cu e a M (g.an a bx)
abbrev DK:bB:=eK dc (jD bS) (λa d=>bm (ho a d)) λ_ _=>[]
def VW:bI q 41 DK:=.bf λa d _=>Qg a d
def rp{a:e α}{N:α}(d:f<c a):a.getD f N∈a:=J
def RJ{a:e Int}{d:Int}:a.contains d=!(aI (c a)).all λf=>!(a.getD f 0==d):=by rw[pG,iG,<-pE,g0,List.contains_iff_mem];grind[List.mem_iff_getElem]
def O5(f:e Int)(h:Int):ad q 42 [cx.M f,S h] [] (bm (f.contains h)) []:=by
 refine ad.E func42 rfl λp=>?_;have s:=p.M 0 a;refine a8 a M ?_;rw[RJ];refine g.b1 (λd=>d<=c f/\∀l,l<d->(!(f.getD l 0==h))=i) (λd:Nat=>[(0,cx.M f),(1,S h),(5,S d)]) (λ_=>[]) (λd=>c f-d) 0 a Q a M ⟨by omega,by omega⟩ ?_;rintro d ⟨r,o⟩;by_cases n:d<c f
 .have u:f.getD d cx.N=f.getD d 0:=rfl;by_cases j:f.getD d 0=h
  .refine a_ [9,17] a ?_ (g.bD (b3.zero a ?_))
   .simp[-av,u,j,n]
   exact ph
  refine a_ [9,-17] a ?_ (g.bI (d+1) a Q a M ⟨n,l2 o J⟩ x);simp[-av,u,j,n,a9];omega
 obtain rfl:d=c f:=x;refine a_ [-9] a Q (g.a_ a a ?_);exact a8 a M (g.an a dX)
abbrev Du:bB:=eK (fQ cx) dc (λa d=>bm (a.contains d)) λ_ _=>[]
def VE:bI q 42 Du:=.bf λa d _=>O5 a d
def Qs(h:Int)(d:e bU)(j:Int):ad q 139 [S h,br.M d,S j] [] (hT (di h d j)) []:=by
 refine ad.E func139 rfl λs=>?_;have v:=s.M 1 a;have o:a3 q [(172,DO)]:=.cons V4 .nil;refine cu o a M (g.b1 (λf=>f<=c d/\di h d j=di h (d.drop f) j) (λf:Nat=>[(0,S h),(1,br.M d),(2,S j),(8,S f)]) (λ_=>[]) (λf=>c d-f) 0 a Q a M ⟨by omega,a⟩ ?_);rintro f ⟨t,l⟩;by_cases p:f<c d
 .have u:d.drop f=d.getD f (0,[])::d.drop (f+1):=L3;have r:((d.getD f br.N).1,bS.ao (d.getD f br.N).2.length (bS.fn (d.getD f br.N).2))=d.getD f (0,[]):=bH;rw[u,show di h (d.getD f (0,[])::d.drop (f+1)) j=_ from List.findSome?_cons]at l;cases n:gi h (d.getD f (0,[])) j with
  |some w=>
   rw[n]at l;refine a4 o [14,27] a ?_ (g.bD (b3.zero a ?_))
   .simp[-av,r,n,p,bS.ad]
   simp_all
  |none=>
   rw[n]at l;refine a4 o [14,-27] a ?_ (g.bI (f+1) a Q a M ⟨p,l⟩ x);simp[-av,r,n,p,a9,bS.ad];omega
 obtain rfl:f=c d:=x;refine a_ [-14] a Q (g.a_ a a ?_);exact a8 a M (g.an a (by rw[l,u6];simp[di]))
abbrev DM:bB:=jJ dc (fQ br) dc (λd a e=>hT (di d a e)) λ_ _ _=>[]
def V0:bI q 139 DM:=.cJ λd a e _=>Qs d a e
def QF(t j:e an):ad q 173 [bD.M t,bD.M j] [] (bm (t==j)) []:=by
 refine ad.E func173 rfl λo=>?_;have v:=o.M 0 a;by_cases s:c t=c j
 rotate_left
 .have:(t==j)=m:=gn.2 J;exact a_ [10] a cb (g.an a (by simp[this]))
 refine a_ [-10] a cb (g.b1 (λd=>d<=c t/\∀f,f<d->t.getD f []=j.getD f []) (λd:Nat=>[(0,bD.M t),(1,bD.M j),(5,S d)]) (λ_=>[]) (λd=>c t-d) 0 a Q a M ⟨by omega,by omega⟩ ?_);rintro d ⟨r,u⟩;by_cases p:d<c t
 .have l:∀n:e an,n.getD d bD.N=n.getD d []:=λ_=>rfl;by_cases h:t.getD d []=j.getD d []
  .refine a_ [14,-25] a ?_ (g.bI (d+1) a Q a M ⟨p,λf w=>?_⟩ x)
   .simp[-av,l,h,a9];omega
   grind
  refine a_ [14,25] a ?_ (g.bD (b3.zero a ?_))
  .simp[-av,l,h];omega
  exact Ce
 obtain rfl:d=c t:=x;have:t=j:=pD s λf h y=>by grind
 refine a_ [-14] a Q (g.a_ a a ?_);exact a8 a M (g.an a (by simp[this]))
def V_:bI q 173 vv:=.bf λa d _=>QF a d
def Hc(g:an):∀e f d,d∈hG g e f->c d<=8
 |0,_,d,a=>by exact bH
 |e+1,f,d,a=>by
  simp only[hG]at a;split at a
  .rename_i h;rcases ef.1 a with rfl|a
   .grind [pY]
   exact Hc g e _ d a
  grind
def Nx{a:e an}{d:an}(g:d∈a)(h:8<c d):ig a=k:=by unfold ig;rw[bp];intro f;simp only[ct,gZ]at f;have:=Hc a.flatten (c a.flatten) 0 d (by rw[show hG a.flatten (c a.flatten) 0=a from f.2];exact g);omega
def Rr(a:e an)(d:Nat):(a.take d).flatten.length<=c a.flatten:=Cm
def Nw{l:e an}(d:40<(l.take f).flatten.length):ig l=k:=by have:=Rr l f;unfold ig;rw[bp];intro a;simp only[ct,fa,bM]at a;omega
def Py(l:e an):ad q 140 [bD.M l] [] (hT (ig l)) []:=by
 refine ad.E func140 rfl λs=>?_;have t:=s.M 0 a;have d:a3 q [(47,vs),(98,vu),(173,vv)]:=.cons In (.cons BF (.cons V_ .nil));refine cu d a M (g.b1 (λf=>f<=c l/\(l.take f).flatten.length<=48) (λf:Nat=>[(0,bD.M l),(4,bC (l.take f).flatten),(5,S f)]) (λ_=>[]) (λf=>c l-f) 0 a Q a M ⟨by omega,by simp⟩ ?_);rintro f ⟨r,o⟩;by_cases n:f<c l
 .have j:l.getD f bD.N=l.getD f []:=rfl;have w:(l.take (f+1)).flatten=(l.take f).flatten++l.getD f []:=lK;by_cases h:c (l.getD f [])<=8
  .by_cases u:(l.take f).flatten.length<=40
   .refine a4 d [9,-18,-22] a ?_ (g.bI (f+1) a ?_ a M ⟨n,by grind⟩ x)
    .simp[-av,-List.length_flatten,j,a9];omega
    simp_all
   refine a4 d [9,-18,22] a ?_ (g.bD (b3.zero a ?_))
   .simp[-av,-List.length_flatten,j];omega
   simp[Nw (l:=l) (f:=f) x]
  refine a4 d [9,18,22] a ?_ (g.bD (b3.zero a ?_))
  .simp[-av,j];omega
  simp[V,V.W,Nx (rp (N:=[]) n) x]
 obtain rfl:f=c l:=x;rw[eB]at o⊢;refine a4 d [-9] a Q (g.a_ a a ?_);have p:=bD.aa l;cases h:fa l.flatten with
 |false=>exact a4 d [32,38] rfl (by simp[h]) (g.an rfl (by simp[ig,h]))
 |true=>
  have v:dP l.flatten=i:=by simp only[fa,ct]at h;exact h.2
  cases u:(cc l.flatten==l)with
  |false=>
   refine a4 d [-32,38] a ?_ (g.an a (by simp[ig,u]));exact bH
  |true=>
   refine a4 d [-32,-38] a ?_ (g.an a (by simp[ig,h,u]));exact bH
abbrev Dz:bB:=df (fQ bD) (λa=>hT (ig a)) λ_=>[]
def VL:bI q 140 Dz:=.a3 λa _=>Py a
abbrev H5(a:fE):Y:=.cells 65 [.c (.int .i64 a.1),.c (.M m 2 (c a.2) (cP.fn a.2))]
abbrev md(f:Int)(d:e bU)(a:e Int):e an:=a.map λg=>(di f d g).getD []
def RI{aB:e bU}{a:e Int}(d:y<c a):md o aB (a.take (y+1))=md o aB (a.take y)++[(di o aB (a.getD y 0)).getD []]:=lK
def Rg{d:e bU}{a:e Int}(g:y<c a)(f:di o d (a.getD y 0)=k):g5 o d a=k:=LZ
def Rh{d:e bU}{a:e Int}(g:∀f,f<c a->(di o d (a.getD f 0)).isSome=i):g5 o d a=b (md o d a):=by unfold g5;rw[bF];grind[List.mem_iff_getElem]
def QN(o:Int)(h:fE)(aB:e bU)(Z:c h.2<=4000000)(T:∀d∈h.2,c d.2<=4000000):
  ad q 94 [S o,mT h,br.M aB] [] (lG ((e0 o h aB).getD []) (e0 o h aB).isSome) []:=by
 refine ad.E func94 rfl λH=>?_;have t:a3 q [(44,s'),(139,DM),(140,Dz),(18,s_)]:=.cons xn (.cons V0 (.cons VL (.cons BE .nil)));cases cI:cB o with
 |false=>
  refine a4 t [19] a qt (g.an a ?_);simp[e0,cI]
 |true=>
 refine a4 t [-19,904] a qt (g.bH 8 74 2 a a ?_);refine cu t a M (g.aN 2 (λn=>n<=c h.2/\∀f,f<n->(fT o aB (h.2.getD f ([],[]))).isSome=i) (λn:Nat=>[(0,S o),(2,br.M aB),(4,ba 0 0),(8,.k (.S (.q 1 2 (c (fb o aB (h.2.take n))) (bf.fn (fb o aB (h.2.take n)))))),(9,S n)]) (λn=>[H5 h,.q 74 2 (c (fb o aB (h.2.take n))) (bf.fn (fb o aB (h.2.take n)))]) (λn=>c h.2-n) 0 a xT a xT a ⟨by omega,by omega⟩ ?_);rintro n ⟨U,D⟩;by_cases y:n<c h.2
 .have F:=T _ (rp (N:=([],[])) y);have ac:=zZ (o:=o) (aB:=aB) y;have X:c (fb o aB (h.2.take n))=n:=by simp[fb];omega
  have j:h.2.getD (n:Int).toNat cP.N=h.2.getD n ([],[]):=J;have B:=Bs (o:=o) (aB:=aB) y;generalize s:h.2.getD n ([],[])=d at F ac j B;generalize fb o aB (h.2.take n)=v at *;refine a4 t [25,908] a cb (g.bH 10 9 1 a a ?_);refine cu t a M (g.aN 3 (λf=>f<=c d.2/\∀z,z<f->(di o aB (d.2.getD z 0)).isSome=i) (λf:Nat=>[(0,S o),(2,br.M aB),(4,ba 0 0),(8,.k (.S (.q 1 2 (c v) (bf.fn v)))),(9,S n),(10,.k (.S (.q 2 1 (c (md o aB (d.2.take f))) (bD.fn (md o aB (d.2.take f)))))),(11,S f)]) (λf=>[H5 h,.q 74 2 (c v) (bf.fn v),.q 9 1 (c (md o aB (d.2.take f))) (bD.fn (md o aB (d.2.take f)))]) (λf=>c d.2-f) 0 a Q a Q a ⟨by omega,by omega⟩ ?_);rintro f ⟨ab,Y⟩;by_cases E:f<c d.2
  .have u:d.2.getD (f:Int).toNat cx.N=d.2.getD f 0:=J;cases a2:di o aB (d.2.getD f 0)with
   |none=>
    have w:fT o aB d=k:=by simp[fT,Rg E a2]
    refine a4 t [37,56] a ?_ (g.aV (g.dk (b3.zero a ?_)))
    .simp only[V,j,u,a2,br.aa,br.ad];grind
    rw[B w];simp
   |some z=>
    have l:=RI (o:=o) (aB:=aB) E;rw[a2]at l;have O:c (md o aB (d.2.take f))=f:=J;have r:=bD.aZ (md o aB (d.2.take f)) z;refine a4 t [37,-56] a ?_ (g.av (f+1) a ?_ ?_ ⟨E,λW R=>?_⟩ x)
    .simp only[V,j,u,a2,br.aa,br.ad,O,a9,show p7.bytes=16 from a];grind
    .exact Lq
    .exact Lq
    grind
  obtain rfl:f=c d.2:=x;have I:=Rh Y;rw[eB];have O:c (md o aB d.2)=c d.2:=Q;refine a4 t [-37] a (by simp only[V,j];simp[y]) (g.aA ?_);cases p:ig (md o aB d.2)with
  |none=>
   have w:fT o aB d=k:=by simp[fT,I,p]
   refine a4 t [68] a ?_ (g.aV (b3.zero a ?_))
   .simp only[V,bD.aa,bD.ad,p];simp
   rw[B w];simp
  |some K=>
   have w:fT o aB d=b (d.1,K):=by simp[fT,I,p]
   rw[w]at ac;have C:=bf.aZ v (d.1,K);refine a4 t [-68] a ?_ (g.av (n+1) a ?_ ?_ ⟨y,λW R=>?_⟩ x)
   .simp only[V,j,bD.aa,bD.ad,p,X,a9,show nT.bytes=32 from a];grind
   .exact Lc
   .exact Lc
   grind
 obtain rfl:n=c h.2:=x;rw[eB];have G:h.2.all (λd=>(fT o aB d).isSome)=i:=aX.2 λd F=>by grind[List.mem_iff_getElem]
 refine a4 t [-25] a Q (g.aA ?_);cases A:dm (fb o aB h.2)with
 |false=>
  refine a4 t [83] a ?_ (g.an a ?_)
  .simp[bf.aa,bf.ad,A]
  simp[e0,A]
 |true=>
  refine a4 t [-83] a ?_ (g.an a ?_)
  .simp[bf.aa,bf.ad,A]
  simp[e0,A,cI,G]
abbrev DW:bB:=jJ dc (jD cP) (fQ br) (λe d a=>lG ((e0 e d a).getD []) (e0 e d a).isSome) λ_ d _=>[c d.2<=4000000,∀f∈d.2,c f.2<=4000000]
def Wb:bI q 94 DW:=.cJ λe f a d=>QN e f a d.1 d.2
abbrev nn:=Int×Int
def hj(a:nn):Bool:=decide (1<=a.1/\a.1<=2)&&decide (1<=a.2/\a.2<=20)
def hZ(a:e nn):Bool:=(aI (c a)).all (λd=>hj (a.getD d (0,0)))&&decide (c a<=9)
abbrev zu(a:nn):s:=.k (.agg [.c (.int .i64 a.1),.c (.int .i64 a.2)])
def O_(d:nn):ad q 95 [zu d] [] (bm (hj d)) []:=by
 refine ad.E func95 rfl λh=>?_;have f:a3 q [(17,oH)]:=.cons qm .nil;by_cases e:1<=d.1/\d.1<=2
 .exact a4 f [6] a (by simp[e]) (g.an a (by simp[hj,e]))
 exact a4 f [-6] a cb (g.an a (by simp only[V,hj,qJ e];simp))
def PU(f:e nn):ad q 45 [bV.M f] [] (bm (hZ f)) []:=by
 refine ad.E func45 rfl λp=>?_;have t:=p.M 0 a;have j:a3 q [(95,df qB (λh=>bm (hj h)) λ_=>[])]:=.cons (.a3 λh _=>O_ h) .nil;refine cu j a M ?_;unfold hZ;refine g.b1 (λd=>d<=c f/\∀o,o<d->hj (f.getD o (0,0))=i) (λd:Nat=>[(0,bV.M f),(3,S d)]) (λ_=>[]) (λd=>c f-d) 0 a Q a M ⟨by omega,by omega⟩ ?_;rintro d ⟨s,n⟩;by_cases h:d<c f
 .have r:f.getD d bV.N=f.getD d (0,0):=rfl;cases l:hj (f.getD d (0,0))with
  |false=>
   refine a4 j [7,15] a dX (g.bD (b3.zero a ?_));rw[mQ h l];simp
  |true=>
   refine a4 j [7,-15] a ?_ (g.bI (d+1) a Q a M ⟨h,l2 n l⟩ x);simp[-av,r,l,h,a9];omega
 obtain rfl:d=c f:=x;refine a4 j [-7] a Q (g.a_ a a ?_);exact cu j a M (g.an a (by rw[g0.2 n];simp;omega))
abbrev ta:bB:=df (fQ bV) (λa=>bm (hZ a)) λ_=>[]
def VR:bI q 45 ta:=.a3 λa _=>PU a
def b9(a:e bU):e Int:=a.flatMap λd=>d.2.map (·.1)
def k6(f:α->Int)(d:α)(g:e α)(a:Nat):Bool:=a==0||decide (f (g.getD (a-1) d)<f (g.getD a d))
def mu(f:Int)(a:e bU)(d:Nat):Bool:=ho f (a.getD d (0,[]))&&k6 (·.1) (0,[]) a d
def kr(e:Int)(a:bP)(d:Nat):Bool:=decide (1<=(a.2.1.getD d (0,[])).1/\(a.2.1.getD d (0,[])).1<=20)&&k6 (·.1) (0,[]) a.2.1 d&&(e0 e (a.2.1.getD d (0,[])) a.1).isSome
def h5(d:Int)(a:bP):Bool:=(aI (c a.1)).all (mu d a.1)&&decide (b9 a.1).Nodup&&(aI (c a.2.1)).all (kr d a)&&cB d&&hZ a.2.2&&decide (c a.1<=20)
def Gz{a:e bU}(d:f<c a):b9 (a.take (f+1))=b9 (a.take f)++(a.getD f (0,[])).2.map (·.1):=by rw[ni d (0,[])];simp[b9]
def SQ{aB:e bU}(a:¬(b9 (aB.take f)).Nodup):¬(b9 aB).Nodup:=λd=>a (by
 have:b9 aB=b9 (aB.take f)++b9 (aB.drop f):=LO
 grind)
abbrev pa(a:bP):Y:=.cells 27 [.c (.M m 2 (c a.1) (br.fn a.1)),.c (.M m 2 (c a.2.1) (cG.fn a.2.1)),.c (.M m 2 (c a.2.2) (bV.fn a.2.2))]
def O4(e:Int)(f:bP)(d:fE)(l:c d.2<=4000000)(o:∀j∈d.2,c j.2<=4000000):ad q 43 [S e,fg f,mT d] [] (bm (e0 e d f.1).isSome) []:=by
 refine ad.E func43 rfl λn=>?_;have h:a3 q [(94,DW)]:=.cons Wb .nil;have p:(d.1,cP.ao (c d.2) (cP.fn d.2))=d:=by rw[cP.aa]
 refine cu h a bH (g.an a ?_);simp[cP.aa,br.aa]
abbrev Dt:bB:=jJ dc pM (jD cP) (λd e a=>bm (e0 d a e.1).isSome) λ_ _ a=>[c a.2<=4000000,∀f∈a.2,c f.2<=4000000]
def VD:bI q 43 Dt:=.cJ λd e f a=>O4 d e f a.1 a.2
def qO{ac:α->Int}{N:α}{l:e α}(a:f≠0):k6 ac N l f=decide (ac (l.getD (f-1) N)<ac (l.getD f N)):=by unfold k6;grind
def QZ(t:Int)(d:bP)(L:oa d)(P:c d.1<=4000000)(Y:c d.2.1<=4000000):ad q 16 [S t,fg d] [] (bm (h5 t d)) []:=by
 refine ad.E func16 rfl λaq=>?_;have o:a3 q [(41,DK),(42,Du),(17,oH),(43,Dt),(44,s'),(45,ta)]:=.cons VW (.cons VE (.cons qm (.cons VD (.cons xn (.cons VR .nil)))));refine a4 o [902] a M (g.bH 5 3 1 a a ?_);refine cu o a M ?_;unfold h5;refine g.aN 2 (λf=>f<=c d.1/\(∀h,h<f->mu t d.1 h=i)/\(b9 (d.1.take f)).Nodup/\c (b9 (d.1.take f))<=4*f) (λf:Nat=>[(0,S t),(3,ba 0 0),(5,.k (.S (.q 1 1 (c (b9 (d.1.take f))) (cx.fn (b9 (d.1.take f)))))),(6,S f)]) (λf=>[pa d,.q 3 1 (c (b9 (d.1.take f))) (cx.fn (b9 (d.1.take f)))]) (λf=>c d.1-f) 0 a B1 a B1 a ⟨by omega,by omega,by simp[b9],by simp[b9]⟩ ?_;rintro f ⟨I,z,R,X⟩;by_cases n:f<c d.1
 .have K:=Gz n;have D:=SQ (aB:=d.1) (f:=f+1);have a2:d.1.getD f br.N=d.1.getD f (0,[]):=rfl;have p:d.1.getD (f-1) br.N=d.1.getD (f-1) (0,[]):=rfl;have u:mu t d.1 f=(ho t (d.1.getD f (0,[]))&&k6 (·.1) (0,[]) d.1 f):=rfl;have U:=qO (ac:=λe:bU=>e.1) (N:=(0,[])) (l:=d.1) (f:=f);generalize s:d.1.getD f (0,[])=e at *;generalize d.1.getD (f-1) (0,[])=v at *;cases w:ho t e with
  |false=>
   rw[w,sP]at u;refine a4 o [14,25,44] a KE (g.aV (b3.zero a ?_));rw[mQ n u];simp
  |true=>
   have Z:c e.2<=4:=by grind[AX]
   rw[w,gL]at u;cases A:k6 (·.1) (0,[]) d.1 f with
   |false=>
    have y:f≠0:=by rintro rfl;cases A
    have E:¬v.1<e.1:=J;refine a4 o [14,-25,28,42,44] a K4 (g.aV (b3.zero a ?_));rw[mQ n (u.trans A)];simp
   |true=>
   rw[A]at u;apply g.b5 [(0,S t),(3,ba 0 0),(5,.k (.S (.q 1 1 (c (b9 (d.1.take f))) (cx.fn (b9 (d.1.take f)))))),(6,S f),(7,S 0)] [pa d,.q 3 1 (c (b9 (d.1.take f))) (cx.fn (b9 (d.1.take f)))]
   .intro ai;by_cases y:f=0
    .subst y;refine a4 o [14,-25,-28,-44] a KE (ai _ _ a ?_);simp
    have E:v.1<e.1:=J;refine a4 o [14,-25,28,-42,-44] a K4 (ai _ _ a ?_);simp
   generalize b9 (d.1.take f)=j at *;refine g.aN 2 (λh=>h<=c e.2/\(j++(e.2.take h).map (·.1)).Nodup) (λh:Nat=>[(0,S t),(3,ba 0 0),(5,.k (.S (.q 1 1 (c (j++(e.2.take h).map (·.1))) (cx.fn (j++(e.2.take h).map (·.1)))))),(6,S f),(7,S h)]) (λh=>[pa d,.q 3 1 (c (j++(e.2.take h).map (·.1))) (cx.fn (j++(e.2.take h).map (·.1)))]) (λh=>c e.2-h) 0 a Q a Q a ⟨by omega,by grind⟩ ?_;rintro h ⟨ab,G⟩;by_cases r:h<c e.2
   .have C:e.2.getD h bS.N=eF e h:=rfl;have eM:j++(e.2.take (h+1)).map (·.1)=(j++(e.2.take h).map (·.1))++[(eF e h).1]:=lK;have T:c (j++(e.2.take h).map (·.1))=c j+h:=J;generalize j++(e.2.take h).map (·.1)=B at *;cases O:B.contains (eF e h).1 with
    |true=>
     refine a4 o [53,67] a ?_ (g.aV (g.dk (b3.zero a ?_)))
     .simp[-av,-List.contains_eq_mem,a2,C,n,r,O,cx.aa,cx.ad]
     .have bi:¬(b9 d.1).Nodup:=D (by
       have ae:j++e.2.map (·.1)=(j++(e.2.take (h+1)).map (·.1))++(e.2.drop (h+1)).map (·.1):=Q
       grind)
      simp[bi]
    |false=>
     have H:=cx.aZ B (eF e h).1;have W:cx.ao (c j+h) (cx.fn B)=B:=by rw[<-T];exact cx.aa B
     refine a4 o [53,-67] a ?_ (g.av (h+1) a ?_ ?_ ⟨r,?_⟩ x)
     .simp[-av,-List.contains_eq_mem,a2,C,n,r,O,cx.aa,cx.ad,T,W,a9,show fh.bytes=8 from a];omega
     .exact JR
     .exact JR
     grind
   obtain rfl:h=c e.2:=x;rw[eB]at G⊢;refine a4 o [-53] a ?_ (g.aA ?_)
   .simp[-av,a2,n]
   refine cu o a bH (g.av (f+1) a ?_ ?_ ⟨n,l2 z u,by grind,by grind⟩ x)
   .rw[K];simp
   rw[K];simp
 obtain rfl:f=c d.1:=x;rw[eB]at R⊢;refine a4 o [-14] a Q (g.aA ?_);refine cu o a M ?_;rw[g0.2 z,gf R,gL,gL];generalize b9 d.1=j;refine g.aN 2 (λf=>f<=c d.2.1/\(∀h,h<f->kr t d h=i)) (λf:Nat=>[(0,S t),(3,ba 0 0),(8,S f)]) (λ_=>[pa d,.q 3 1 (c j) (cx.fn j)]) (λf=>c d.2.1-f) 0 a Q a Q a ⟨by omega,by omega⟩ ?_;rintro f ⟨I,z⟩;by_cases n:f<c d.2.1
 .have a2:d.2.1.getD f cG.N=d.2.1.getD f (0,[]):=rfl;have p:d.2.1.getD (f-1) cG.N=d.2.1.getD (f-1) (0,[]):=rfl;have be:=L _ (rp (N:=(0,[])) n);have u:kr t d f=(decide (1<=(d.2.1.getD f (0,[])).1/\(d.2.1.getD f (0,[])).1<=20)&&k6 (·.1) (0,[]) d.2.1 f&&(e0 t (d.2.1.getD f (0,[])) d.1).isSome):=rfl;have U:=qO (ac:=λe:fE=>e.1) (N:=(0,[])) (l:=d.2.1) (f:=f);generalize s:d.2.1.getD f (0,[])=e at *;generalize d.2.1.getD (f-1) (0,[])=v at *;by_cases jb:1<=e.1/\e.1<=20
  rotate_left
  .refine a4 o [85,96,116,126] a ?_ (g.aV (b3.zero a ?_))
   .simp[-av,a2,n];omega
   exact ph
  cases A:k6 (·.1) (0,[]) d.2.1 f with
  |false=>
   have y:f≠0:=by rintro rfl;cases A
   have E:¬v.1<e.1:=J;refine a4 o [85,-96,99,113,116,126] a ?_ (g.aV (b3.zero a ?_))
   .simp[-av,a2,p,n,jb,a9];omega
   exact ph
  |true=>
   rw[gf jb,A,gL,gL]at u;cases r:(e0 t e d.1).isSome with
   |false=>
    by_cases y:f=0
    .subst y;refine a4 o [85,-96,-99,-116,126] a ?_ (g.aV (b3.zero a ?_))
     .simp[-av,a2,n,jb,cP.aa,cP.ad,br.aa,br.ad,cG.ad,bV.ad,r,be.1];grind
     rw[mQ n (u.trans r)];simp
    have E:v.1<e.1:=J;refine a4 o [85,-96,99,-113,-116,126] a Lr (g.aV (b3.zero a ?_));rw[mQ n (u.trans r)];simp
   |true=>
    rw[r]at u;by_cases y:f=0
    .subst y;refine a4 o [85,-96,-99,-116,-126] a ?_ (g.av 1 a Q Q ⟨n,l2 z u⟩ x);simp[-av,a2,n,jb,a9,cP.aa,cP.ad,br.aa,br.ad,cG.ad,bV.ad,r,be.1];grind
    have E:v.1<e.1:=J;refine a4 o [85,-96,99,-113,-116,-126] a ?_ (g.av (f+1) a Q Q ⟨n,l2 z u⟩ x);exact Lr
 obtain rfl:f=c d.2.1:=x;refine a4 o [-85] a Q (g.aA ?_);rw[g0.2 z,gL];cases cI:cB t
 .exact a4 o [-129,-134] a qt (g.an a)
 cases F:hZ d.2.2
 .exact a4 o [129,-134] a L2 (g.an a)
 exact a4 o [129,134] a L2 (g.an a cb)
abbrev DZ:bB:=eK dc pM (λd a=>bm (h5 d a)) λ_ a=>[oa a,c a.1<=4000000,c a.2.1<=4000000]
def We:bI q 16 DZ:=.bf λd e a=>QZ d e a.1 a.2.1 a.2.2
def W6{a:Type}(f:dO a)(d:e a)(h j:a):b4 (c d+1+1) (b_ (c d+1) (b_ (c d) (f.fn d) λg=>[f.a1 h].getD g []) λg=>[f.a1 j].getD g []) (f.fn (d++[h,j])):=f.e' d h j
def oE(a:e fE):e Int:=a.flatMap λd=>wA d.2
structure Mi(d:bP):Prop where
 jz:c d.1<=4000000
 hD:oa d
 jQ:c d.2.1<=4000000
 j3:c (oE d.2.1)<=4000000
def P2(d:Int):ad q 153 [S d] [] (bm (decide (0<=d)&&decide (d<999999999989))) []:=by
 refine ad.E func153 rfl λe=>?_;by_cases n:0<=d
 .exact a_ [5] a hc (g.an a hc)
 exact a_ [-5] a hc (g.an a hc)
def QT(d f:Int):ad q 122 [nK d f] [] (bm (fr (d,f))) []:=by
 refine ad.E func122 rfl λj=>?_;have h:a3 q [(153,df dc (λe=>bm (decide (0<=e)&&decide (e<999999999989))) λ_=>[])]:=.cons (.a3 λe _=>P2 e) .nil;unfold fr;cases n:(decide (0<=d)&&decide (d<999999999989))with
 |false=>exact a4 h [-6,-11] rfl hc (g.an rfl)
 |true=>
  by_cases N:1<=f
  .exact a4 h [6,11] a dX (g.an a uz)
  exact a4 h [6,-11] a dX (g.an a uz)
abbrev y8:bB:=df qB (λa=>bm (fr a)) λ_=>[]
def Iy:bI q 122 y8:=.a3 λa _=>QT a.1 a.2
def IJ(f:e (Int×Int)):∀a:cS,cS.e0 a->(f.foldl (λa d=>a.put d.1 d.2) a).ao=f.foldl dW a.ao/\cS.e0 (f.foldl (λa d=>a.put d.1 d.2) a):=by
 induction f with
 |nil=>grind
 |cons d h g=>
  grind[A9,TM]
def Po(l:e bU)(R:c l<=4000000)(C:c (dk l)<=100000):ad q 65 [br.M l] [] (bV.M (dV l)) []:=by
 refine ad.E func65 rfl λD=>?_;have f:a3 q [(122,y8)]:=.cons Iy .nil;refine c0 f a M (g.bH 3 163 2 a a ?_);refine g.aN 1 (λd=>d<=c l/\(dk (l.take d)).all fr=i) (λd:Nat=>[(3,.k (.S (.q 0 2 (c (dk (l.take d))) (bV.fn (dk (l.take d)))))),(9,br.M l),(10,S (c l)),(11,S d)]) (λd=>[iv (dk (l.take d))]) (λd=>c l-d) 0 a ?_ a ?_ a ⟨by omega,a⟩ ?_
 .simp[dk]
 .simp[dk]
 rintro d ⟨A,j⟩;by_cases n:d<c l
 .have w:l.getD (d:Int).toNat br.N=l.getD d (0,[]):=J;have E:=By n;refine bs f [12] a bx (g.aN 2 (λy=>y<=(l.getD d (0,[])).2.length/\(gy l d y).all fr=i) (λy:Nat=>[(3,.k (.S (.q 0 2 (c (gy l d y)) (bV.fn (gy l d y))))),(5,ba 1 0),(9,br.M l),(10,S (c l)),(11,S d),(16,bS.M (l.getD d (0,[])).2),(17,S (l.getD d (0,[])).2.length),(18,S y)]) (λy=>[iv (gy l d y),.cells 61 [.c (.int .i64 (l.getD d (0,[])).1),.c (.M m 2 (l.getD d (0,[])).2.length (bS.fn (l.getD d (0,[])).2))]]) (λy=>(l.getD d (0,[])).2.length-y) 0 a JM a JM a ⟨by omega,by simpa[gy]using j⟩ ?_);rintro y ⟨T,z⟩;obtain⟨I,N⟩:=xi (l:=l) (y:=y) n;have W:c (gy l d y)<=100000:=J;have X:(l.getD d (0,[])).2.length<=100000:=by grind[H']
  by_cases s:y<(l.getD d (0,[])).2.length
  .have t:(l.getD d (0,[])).2.getD (y:Int).toNat bS.N=(l.getD d (0,[])).2.getD y (0,[]):=J;have o:gy l d (y+1)=gy l d y++[(((l.getD d (0,[])).2.getD y (0,[])).1,(l.getD d (0,[])).1)]:=LA;have a2:=bV.aZ (gy l d y) (((l.getD d (0,[])).2.getD y (0,[])).1,(l.getD d (0,[])).1);cases v:fr (((l.getD d (0,[])).2.getD y (0,[])).1,(l.getD d (0,[])).1)with
   |false=>
    have U:dV l=[]:=by obtain⟨I,N⟩:=xi (l:=l) (y:=y+1) n;unfold dV;rw[bp];grind
    refine bs f [19,29] a ?_ (g.aV (b3.zero a ?_))
    .simp only[V,t,v,bM,bn,bl];exact sh
    exact bx
   |true=>
    refine bs f [19,-29] a ?_ (g.av (y+1) a ?_ ?_ ?_ ?_)
    .simp only[V,t,v,a9,show nR.bytes=16 from a,bM,bn,bl];exact sh
    .exact Lh
    .exact Lh
    .grind
    omega
  have Y:y=(l.getD d (0,[])).2.length:=x;have u:gy l d y=dk (l.take (d+1)):=by rw[E,gy];grind[List.length_map]
  refine bs f [-19] a bH (g.aA ?_);rw[u];refine c0 f a bH (g.av (d+1) a Q ?_ ⟨n,u▸z⟩ x);simp
 .obtain rfl:d=c l:=x;rw[eB]at j⊢;refine bs f [-12] a Q (g.aA ?_);refine g.dF (c':=[(3,bV.M (dk l))]) (aO:=[iv (dk l)]) ?_ a Q a Q;have F:∀p∈dk l,a9 .i64 p.1/\a9 .i64 p.2:=λp O=>by have:=aX.1 j p O;simp only[fr,ct,bM]at this;simp only[a9];omega
  have h:a3 q [(118,k' [o2 (dk l)] (aL (ev (h7 (dk l)))))]:=.cons (nh (Fe (dk l) x F)) .nil;have aG:(h7 (dk l)).ao=dV l:=by unfold dV;rw[bF j];exact(IJ (dk l) .nil bH).1
  have B:c (dV l)<=100000:=by have:=z9 (dk l) [];unfold dV;grind
  rw[<-aG]at B⊢;clear aG;generalize h7 (dk l)=r at *;have K:=EU (q:=q) r x
  cases r<;>(
   refine c0 h a a (g.cp K.tocm [] a a a a (by simp[ev]) a a a bN a bN a λ_=>?_)
   exact c0 h a M (g.an a))
def oX(d:e an)(f:an):Int:=match d.findIdx? (λg=>g==f)with
 |some a=>a
 |none=>-1
def R5{a:e an}{d:an}(g:f<c a)(o:∀h,h<f->a.getD h []≠d)(l:a.getD f []=d):oX a d=f:=by
 have:a.findIdx? (λj=>j==d)=b f:=by rw[CM];refine⟨g,by grind,λh n=>?_⟩;grind
 simp only[oX,this]
def R7{a:e an}{d:an}(h:∀f,f<c a->a.getD f []≠d):oX a d=-1:=by have:a.findIdx? (λg=>g==d)=k:=xL;simp only[oX,this]
def R6(a:e an)(d:an):decide (0<=oX a d)=a.contains d:=by unfold oX;grind
def Pf(f:e an)(l:an):ad q 152 [bD.M f,bC l] [] (S (oX f l)) []:=by
 refine ad.E func152 rfl λr=>?_;have u:=r.M 0 a;refine a8 a M (g.aN 0 (λd=>d<=c f/\∀h,h<d->f.getD h []≠l) (λd:Nat=>[(0,bD.M f),(1,bC l),(7,S (c f)),(8,S d)]) (λ_=>[]) (λd=>c f-d) 0 a Q a M a ⟨by omega,by omega⟩ ?_);rintro d ⟨t,n⟩;by_cases p:d<c f
 .have j:f.getD (d:Int).toNat bD.N=f.getD d []:=rfl;by_cases o:f.getD d []=l
  .rw[R5 p n o];refine a_ [9,16] a ?_ (g.aV (b3.zero a));simp only[V,j,bM,gZ,bn,bl];and_intros<;>first|exact o.symm|omega
  refine a_ [9,-16] a ?_ (g.av (d+1) a ?_ M ⟨p,λh s=>?_⟩ x)
  .simp only[V,j,a9,bM,gn,bn,bl];and_intros<;>first|grind|omega
  .simp
  grind
 rw[R7 λh s=>n h x];refine a_ [-9] a bx (g.aA ?_);exact sj
abbrev M5:bB:=eK (fQ bD) dT (λa d=>S (oX a d)) λ_ _=>[]
def O9(d:e an)(f:an):ad q 121 [bD.M d,bC f] [] (bm (d.contains f)) []:=by refine ad.E func121 rfl λj=>?_;have h:a3 q [(152,M5)]:=.cons (.bf λd f _=>Pf d f) .nil;refine cu h a (by simp only[V];exact bD.ad _) (g.an a ?_);simp only[V,bD.aa,bl];exact R6 d f
abbrev Dv:bB:=eK (fQ bD) dT (λa d=>bm (a.contains d)) λ_ _=>[]
def VF:bI q 121 Dv:=.bf λa d _=>O9 a d
def jQ(d:e cJ)(f:Nat):Bool:=(aI f).all λa=>fr (d.getD a (0,0))&&(a==0||decide ((d.getD (a-1) (0,0)).1<(d.getD a (0,0)).1))
theorem GP{l:e cJ}:jQ l (f+1)=(jQ l f&&(fr (l.getD f (0,0))&&(f==0||decide ((l.getD (f-1) (0,0)).1<(l.getD f (0,0)).1)))):=by unfold jQ;rw[List.range_succ,List.all_append];simp
def GN{g:e cJ}(j:jQ g f=m):∀a,f<=a->jQ g a=m:=by
 intro a h;obtain⟨d,rfl⟩:=Nat.exists_eq_add_of_le h;induction d with
 |zero=>exact j
 |succ d l=>grind[GP]
def Pp(l:e cJ):ad q 117 [bV.M l] [] (bm (jQ l (c l))) []:=by
 refine ad.E func117 rfl λs=>?_;have v:=s.M 0 a;have d:a3 q [(122,y8)]:=.cons Iy .nil;refine cu d a M (g.aN 0 (λf=>f<=c l/\jQ l f=i) (λf:Nat=>[(0,bV.M l),(5,bV.M l),(6,S (c l)),(7,S f)]) (λ_=>[]) (λf=>c l-f) 0 a Q a M a ⟨by omega,a⟩ ?_);rintro f ⟨t,o⟩;by_cases r:f<c l
 .have n:=GP (l:=l) (f:=f);rw[o,gL]at n;have j:l.getD (f:Int).toNat bV.N=l.getD f (0,0):=rfl;cases h:fr (l.getD f (0,0))with
  |false=>
   rw[GN (f:=f+1) J (c l) x];refine a4 d [8,14,29] a ?_ (g.aV (b3.zero a));simp_all
  |true=>
  rw[h,gL]at n;by_cases u:f=0
  .subst u;refine a4 d [8,-14,-17,-29] a ?_ (g.av 1 a Q M ⟨r,n⟩ x);simp only[V,j,h,a9,bM,d6,bn,bl];exact sh
  have p:l.getD ((f:Int)-1).toNat bV.N=l.getD (f-1) (0,0):=by rw[show((f:Int)-1).toNat=f-1 by omega];rfl
  by_cases w:(l.getD (f-1) (0,0)).1<(l.getD f (0,0)).1
  .refine a4 d [8,-14,17,-29] a ?_ (g.av (f+1) a Q M ⟨r,by grind⟩ x);simp only[V,j,p,h,a9,bM,d6,bn,bl];exact sh
  rw[GN (f:=f+1) J (c l) x];refine a4 d [8,-14,17,29] a ?_ (g.aV (b3.zero a));simp only[V,j,p,h,a9,bM,bn,bl];exact sh
 obtain rfl:f=c l:=x;rw[o];refine a4 d [-8] a Q (g.aA ?_);exact cu d a M (g.an a)
def PF(d:e Int):ad q 76 [cx.M d,cx.M d] [] (bm i) []:=by
 refine ad.E func76 rfl λh=>?_;have l:=h.M 0 a;refine a_ [-10] a Q (g.aN 0 (λf=>f<=c d) (λf:Nat=>[(0,cx.M d),(1,cx.M d),(5,S f)]) (λ_=>[]) (λf=>c d-f) 0 a Q a Q a x ?_);intro f j;by_cases n:f<c d
 .exact JO
 exact Lf
abbrev DB:bB:=eK (fQ cx) (fQ cx) (λ_ _=>bm i) λa d=>[d=a]
def VN:bI q 76 DB:=.bf λa d e=>by have:d=a:=e;subst this;exact PF _
def PG(d:e (Int×Int)):ad q 25 [bV.M d,bV.M d] [] (bm i) []:=by
 refine ad.E func25 rfl λh=>?_;have l:=h.M 0 a;refine a_ [-10] a Q (g.aN 0 (λf=>f<=c d) (λf:Nat=>[(0,bV.M d),(1,bV.M d),(5,S f)]) (λ_=>[]) (λf=>c d-f) 0 a Q a Q a x ?_);intro f j;by_cases n:f<c d
 .exact JO
 exact Lf
abbrev DC:bB:=eK (fQ bV) (fQ bV) (λ_ _=>bm i) λa d=>[d=a]
def VO:bI q 25 DC:=.bf λa d e=>by have:d=a:=e;subst this;exact PG _
abbrev GY(a:bU):Y:=.cells 61 [.c (.int .i64 a.1),.c (.M m 2 (c a.2) (bS.fn a.2))]
def PH(d:bU):ad q 26 [l9 d,l9 d] [] (bm i) []:=by
 refine ad.E func26 rfl λs=>?_;by_cases C:c d.2<=9223372036854775807
 .refine a_ [-10,-18] a Q (g.aN 2 (λe=>e<=c d.2) (λe:Nat=>[(2,ba 0 0),(3,ba 1 0),(5,S e)]) (λ_=>[GY d,GY d]) (λe=>c d.2-e) 0 a Q a Q a x ?_);intro e r;by_cases p:e<c d.2
  .refine b6 [24,-37] a ?_ (g.av (e+1) a ?_ ?_ ?_ ?_)
   .simp[a9,p];omega
   .simp
   .simp
   .grind
   omega
  refine b6 [-24] a cb (g.aA ?_);exact cq a M (g.an a)
 exfalso;obtain⟨n,z,h,_⟩:=s;obtain⟨B,u⟩:∃v,bo [] n v (l9 d):=by
  match z,h with
  |[j,_],h=>exact⟨j,h.1⟩
 obtain⟨t,_,f⟩:=u
 match t,f with
 |[j,o],f=>
  have:=f.2.1;cases(show Rd n.n o (.M m 2 (c d.2) (bS.fn d.2))from this)with
  |M w l y A D=>omega
abbrev DD:bB:=eK (jD bS) (jD bS) (λ_ _=>bm i) λa d=>[d=a]
def VP:bI q 26 DD:=.bf λa d e=>by have:d=a:=e;subst this;exact PH _
abbrev iu(a:fE):Y:=.cells 65 [.c (.int .i64 a.1),.c (.M m 2 (c a.2) (cP.fn a.2))]
def PI(e:fE)(h:c e.2<=4000000):ad q 27 [mT e,mT e] [] (bm i) []:=by
 refine ad.E func27 rfl λj=>?_;have t:a3 q [(76,DB)]:=.cons VN .nil;refine a4 t [-10,-18] a Q (g.aN 2 (λd=>d<=c e.2) (λd:Nat=>[(2,ba 0 0),(3,ba 1 0),(5,S d)]) (λ_=>[iu e,iu e]) (λd=>c e.2-d) 0 a Q a Q a x ?_);intro d f;by_cases l:d<c e.2
 .refine bs t [24,-39,53] a ?_ (g.av (d+1) a ?_ ?_ ?_ ?_)
  .simp only[V,a9,j8,k3,mN,bM,bn,bl];and_intros<;>first|exact cx.ad _|omega
  .simp
  .simp
  .grind
  omega
 refine bs t [-24] a cb (g.aA ?_);exact B'
abbrev DE:bB:=eK (jD cP) (jD cP) (λ_ _=>bm i) λd a=>[a=d,c a.2<=4000000]
def VQ:bI q 27 DE:=.bf λa d f=>by obtain⟨rfl,e⟩:d=a/\_:=f;exact PI _ e
abbrev xj(a:bP):Y:=.cells 27 [.c (.M m 2 (c a.1) (br.fn a.1)),.c (.M m 2 (c a.2.1) (cG.fn a.2.1)),.c (.M m 2 (c a.2.2) (bV.fn a.2.2))]
def PJ(e:bP)(f:iB e):ad q 7 [fg e,fg e] [] (bm i) []:=by
 refine ad.E func7 rfl λn=>?_;have t:a3 q [(25,DC),(26,DD),(27,DE)]:=.cons VO (.cons VP (.cons VQ .nil));have p:=f.aR;have o:=f.bs;refine bs t [-13,-21,28] a ?_ ?_
 .simp only[V,a9,j8,k3,mN,bM,bn,bl];and_intros<;>first|exact bV.ad _|omega
 refine g.aN 2 (λd=>d<=c e.1) (λd:Nat=>[(2,ba 0 0),(3,ba 1 0),(5,S d)]) (λ_=>[xj e,xj e]) (λd=>c e.1-d) 0 a Q a Q a x ?_;intro d h;by_cases j:d<c e.1
 .refine bs t [35,48] a ?_ (g.av (d+1) a ?_ ?_ ?_ ?_)
  .simp only[V,a9,bM,bn,bl];and_intros<;>first|exact bS.ad _|omega
  .simp
  .simp
  .grind
  omega
 refine bs t [-35] a cb (g.aA ?_);refine c0 t a M (g.aN 2 (λd=>d<=c e.2.1) (λd:Nat=>[(2,ba 0 0),(3,ba 1 0),(6,S d)]) (λ_=>[xj e,xj e]) (λd=>c e.2.1-d) 0 a Q a Q a x ?_);intro d h;by_cases j:d<c e.2.1
 .have y:=(f.cy _ (kF j (0,[]))).1;have l:e.2.1.getD (d:Int).toNat cG.N=e.2.1.getD d (0,[]):=J;refine bs t [54,67] a ?_ (g.av (d+1) a ?_ ?_ ?_ ?_)
  .simp only[V,a9,l,cP.aa,bM,bn,bl];and_intros<;>first|exact cP.ad _|omega
  .simp
  .simp
  .grind
  omega
 refine bs t [-54] a cb (g.aA ?_);exact B'
end
structure sB(A:bU):Prop where
 ck:∃lu aB,1<=lu/\lu<=99/\0<c aB/\c aB<=4/\(∀be∈aB,cp be=i)/\A=jR lu 7 aB
structure sF(A:fE):Prop where
 ck:∃lu w,1<=lu/\lu<=20/\dm w=i/\A=f' lu 7 w
structure fC(cK:bP):Prop where
 aR:∀A∈cK.1,sB A
 dh:c cK.1<=20
 cL:∀A∈cK.2.1,sF A
 e4:cK.2.1.Pairwise λt j=>t.1<j.1
 bF:∀A∈cK.2.2,(1<=A.1/\A.1<=2)/\1<=A.2/\A.2<=20
 gQ:c cK.2.2<=9
 g9:cK.1.Pairwise λt j=>t.1<j.1
def jw{g:e a'}(n:dm g=i):nm g:=by
 obtain⟨p,_,_,u⟩:=ut.1 n;have r:∀a∈g,dP a.2=i/\c a.2<=40:=λa f=>by have:=(p a f).2;simp only[fa,ct,bM]at this;grind
 refine⟨by omega,λa f=>⟨(r a f).1,by grind⟩,?_⟩;have:∀d:e a',(∀a∈d,c a.2<=40)->c (eC d)<=40*c d:=by
  intro d;induction d with
  |nil=>exact bH
  |cons a v o=>
   intro h;have j:=o λl q=>h l (k2 _ q);have s:=h a iH;have t:=qf a.2;simp only[eC,oy,dZ,fR]at j⊢;omega
 grind
theorem SL(d f:Int)(a:e an):(jR d f a).2.length=c a:=rG f a
def sB.len{a:bU}(d:sB a):1<=c a.2/\c a.2<=4:=by obtain⟨e,f,_,_,h,g,_,rfl⟩:=d.ck;grind[SL]
def sB.b0{a:bU}(d:sB a):1<=a.1/\a.1<=99:=by obtain⟨lu,g,e,f,_,_,_,rfl⟩:=d.ck;exact bH
def sF.b0{a:fE}(d:sF a):1<=a.1/\a.1<=20:=by obtain⟨lu,g,e,f,_,rfl⟩:=d.ck;exact bH
def sF.len{a:fE}(l:sF a):c a.2<=6/\∀g∈a.2,c g.2<=4000000:=by obtain⟨n,o,_,_,e,rfl⟩:=l.ck;have h:=r9 e;refine⟨by simpa[f']using h,λg d=>?_⟩;simp only[f',fF]at d;obtain⟨f,j,rfl⟩:=d;have:=((jw e).ed f j).2;have:=qf f.2;simp only[iV,iI];omega
def C1{f:e fE}:∀(a:Int),f.Pairwise (λa h=>a.1<h.1)->(∀d∈f,a<=d.1/\d.1<=20)->(c f:Int)<=max 0 (21-a):=by
 induction f with
 |nil=>grind
 |cons d s j=>
  intro a o g;obtain⟨q,l⟩:=ia.1 o;have r:=g d iH;have:=j (d.1+1) l λp n=>⟨by grind,(g p (k2 _ n)).2⟩
  grind
def fC.M{d:bP}(a:fC d):c d.2.1<=20:=by have:=C1 1 a.e4 λf e=>(a.cL f e).b0;omega
def fC.size{d:bP}(a:fC d):iB d:=by have g:=a.dh;have h:=a.M;have n:=a.gQ;refine⟨by omega,λj e=>by have:=(a.aR j e).len;omega,by omega,λl f=>?_,by omega⟩;have:=(a.cL l f).len;grind
def fC.num{f:bP}(e:fC f):i6 f:=
 ⟨λd a=>by have:=(e.aR d a).b0;omega,λd a=>by have:=(e.cL d a).b0;omega,λd a=>by have:=(e.bF d a).2;omega⟩
def fC.hF{f:bP}(h:fC f):c (dk f.1)<=100000:=by
 have:∀d:e bU,(∀g∈d,c g.2<=4)->c (R1.dk d)<=4*c d:=by
  intro d;induction d with
  |nil=>exact bH
  |cons p s l=>
   intro a;have j:=l λq n=>a q (k2 _ n);have r:=a p iH;simp only[R1.dk,oy,dZ,iI,fR]at j⊢;omega
 have:=this f.1 λg o=>(h.aR g o).len.2;have:=h.dh;omega
def fC.nil:fC ([],[],[]):=⟨by simp,by simp,by simp,by simp,by simp,by simp,by simp⟩
def AZ(l:Int):∀(h:Nat) (a:Int)(d:e an),(∀g∈d,cp g=i)->∀n∈e5 l h a d,∃t f,a<=t/\t<a+c (e5 l h a d)/\0<c f/\c f<=4/\(∀g∈f,cp g=i)/\n=jR t l f
 |0,_,_,_,n,j=>by exact bH
 |h+1,a,d,u,n,j=>by
  simp only[e5]at j⊢;split at j
  .rename_i p;rw[bF p];rcases ef.1 j with rfl|j
   .grind
   obtain⟨t,f,r,q,s⟩:=AZ l h (a+1) (d.drop 4) (λg o=>u g (pA o)) n j;grind
  grind
def Aa{a:e α}(f:c a≠0)(d:α):a.getD (c a-1) d∈a:=kF x d
def fC.fr{a:bP}(e:fC a):1<=cV a:=by
 unfold R1.cV;split
 .omega
 rename_i d;have:=(e.aR _ (Aa d (0,[]))).b0;omega
def AY(j:Int):∀(h:Nat) (a:Int)(d:e an),∀g∈e5 j h a d,a<=g.1
 |0,_,_,g,f=>by exact bH
 |h+1,a,d,g,f=>by
  simp only[e5]at f;split at f
  .rcases ef.1 f with rfl|f
   .exact Int.le_refl _
   have:=AY j h (a+1) (d.drop 4) g f;omega
  grind
def G3(g:Int):∀(f:Nat) (a:Int)(d:e an),(e5 g f a d).Pairwise λh j=>h.1<j.1
 |0,_,_=>by simp[e5]
 |f+1,a,d=>by
  simp only[e5];split
  .refine ia.2 ⟨λn l=>?_,G3 g f (a+1) (d.drop 4)⟩;have:=AY g f (a+1) (d.drop 4) n l;exact bH
  simp
def fC.gk{a:bP}(l:fC a):∀f∈a.1,f.1<R1.cV a:=by
 unfold R1.cV;split
 .grind
 rename_i n;intro f h;obtain⟨e,d,rfl⟩:=ft h;have g:a.1.getD (c a.1-1) (0,[])=a.1[c a.1-1]:=J;rw[g];rcases dJ e (c a.1-1)with j|u
 .have:=k0.1 l.g9 e (c a.1-1) d x j;omega
 grind
def fC.gv{a:bP}(e:fC a):1<=dG a/\∀g∈a.2.1,g.1<dG a:=by
 have o:=rr a.2.2 e.num.bF;unfold dG;split
 .grind
 rename_i n;refine⟨by omega,λg l=>?_⟩;obtain⟨f,d,rfl⟩:=ft l;have h:a.2.1.getD (c a.2.1-1) (0,[])=a.2.1[c a.2.1-1]:=J;rw[h];rcases dJ f (c a.2.1-1)with j|u
 .have:=k0.1 e.e4 f (c a.2.1-1) d x j;omega
 grind
def fC.fw{d:bP}{n:e a'}{dd:Int}(a:fC d)(z:dm n=i)(h:1<=dd/\dd<=2)(y:fI 7 d n=m):fC (c_ 7 d dd n):=by
 simp only[fI,qE,d6]at y;obtain⟨C,D,f3,f4⟩:=y;have J:=a.fr;obtain⟨I,B⟩:=a.gv;refine⟨λf u=>?_,by simp only[c_,dZ];omega,λf u=>?_,?_,λf u=>?_,by simp only[c_,dZ,iE];omega,?_⟩
 .simp only[c_]at u;rcases fu.1 u with u|u
  .exact a.aR f u
  obtain⟨x,w,A,g,p,q,r,s⟩:=AZ 7 _ _ _ (ob (o:=7) (l:=dV d.1) (jw z)).1 f u;have g:x<R1.cV d+c (jo 7 d n):=g;exact⟨x,w,by omega,by omega,p,q,r,s⟩
 .simp only[c_]at u;rcases fu.1 u with u|u
  .exact a.cL f u
  rw[eN]at u;exact⟨dG d,n,I,by omega,z,u⟩
 .simp only[c_];rw[pz];refine⟨a.e4,by simp,λt v j h=>?_⟩;rw[eN]at h;subst h;exact B t v
 .simp only[c_]at u;rcases fu.1 u with u|u
  .exact a.bF f u
  grind
 simp only[c_];rw[pz];refine⟨a.g9,G3 _ _ _ _,λt v j h=>?_⟩;have E:=a.gk t v;have F:=AY _ _ _ _ j h;omega
def CQ{f:e Int}:∀{o:Nat},c (gp f o)=o->∀a,1<=a->a<o->f.getD a 0≠f.getD (a-1) 0
 |0,_,a,_,d=>by omega
 |o+1,d,a,g,j=>by
  have h:=vd f o;rw[gp]at d;split at d
  .omega
  rename_i l;simp only[dZ,iE]at d;by_cases n:a=o
  .grind
  exact CQ (o:=o) x a g x
def UJ(f:e Int):(lC f).Pairwise λa d=>a<=d:=by have:=List.pairwise_mergeSort (le:=λa d:Int=>decide (a<=d)) (λg h j l n=>by grind) (λg h=>by grind) f;exact this.imp λo=>by grind
def UI(a:e Int):(lC a).Perm a:=List.mergeSort_perm _ _
def Ns(f:e Int):c (hR (lC f))=c f↔f.Nodup:=by
 rw[<-xh f,<-(UI f).nodup_iff];have t:=UJ f;generalize lC f=l at *;have o:∀{d:Nat} (g:d<c l),l.getD d 0=l[d]:=λ{d} g=>by grind
 constructor
 .intro g;have q:=CQ g;refine List.Pairwise.imp (R:=λu v=>u<v) (λg s=>by omega) (k0.2 λd h j a p=>?_);have n:=k0.1 t;have r:=q h x a;rw[o a,o x]at r;have w:=n (h-1) h x a x;by_cases s:d=h-1
  .grind
  have:=n d (h-1) j x x;omega
 intro g;unfold hR;rw[sV (bE _),eB];exact Ca
def p4{a:e α}(g:f<c a)(d:α):a.getD f d=a[f]:=J
def yv{ac:α->Int}{N:α}{g:e α}:(∀a,a<c g->k6 ac N g a=i)↔g.Pairwise λq r=>ac q<ac r:=by
 constructor
 .intro n;have key:∀h a f (d:a<c g) (j:f<c g),f=a+h->0<h->ac g[a]<ac g[f]:=by
   intro h;induction h with
   |zero=>grind
   |succ h s=>
    intro a f d j o _;have p:=n f j;rw[qO x,decide_eq_true_iff,p4 x,p4 j]at p;by_cases l:h=0
    .subst l;grind
    grind
  exact k0.2 λa f d j o=>key (f-a) a f d j x x
 intro n a d;by_cases l:a=0
 .exact bH
 rw[qO l,decide_eq_true_iff,p4 x,p4 d];exact(k0.1 n) (a-1) a x d x
def yl{a:e α}{f:α->Bool}{N:α}:(∀d,d<c a->f (a.getD d N)=i)↔∀g∈a,f g=i:=by grind[List.mem_iff_getElem]
structure mJ(o:Int)(U:bU):Prop where
 b0:1<=U.1/\U.1<=99
 key:cB o=i
 len:1<=c U.2/\c U.2<=4
 g_:∀A∈U.2,right o A=i
 e4:U.2.Pairwise λA cd=>A.1<cd.1
def wL{e:bU}:ho o e=i↔mJ o e:=by
 rw[AX];simp only[ct,bM,g0];have l:(∀d,d<c e.2->hr o e d=i)↔(∀g∈e.2,right o g=i)/\e.2.Pairwise λg n=>g.1<n.1:=by
  rw[<-yl (N:=(0,[])),<-yv (ac:=λg:bq=>g.1) (N:=(0,[]))];constructor
  .intro f;exact⟨λd a=>by have:=f d a;simp only[hr,ct]at this;exact this.1,λd a=>by have:=f d a;simp only[hr,ct]at this;exact this.2⟩
  intro f d a;simp only[hr,ct];exact⟨f.1 d a,f.2 d a⟩
 rw[l];constructor
 .rintro⟨⟨⟨u,h⟩,y⟩,j,X⟩;exact⟨u,h,y,j,X⟩
 rintro⟨u,h,y,j,X⟩;grind
structure iC(o:Int)(d:bP):Prop where
 cw:∀U∈d.1,mJ o U
 g7:d.1.Pairwise λU be=>U.1<be.1
 aq:(b9 d.1).Nodup
 bs:∀A∈d.2.1,(1<=A.1/\A.1<=20)/\(e0 o A d.1).isSome=i
 gq:d.2.1.Pairwise λA cd=>A.1<cd.1
 key:cB o=i
 ee:hZ d.2.2=i
 len:c d.1<=20
def ql{d:bP}:h5 o d=i↔iC o d:=by
 unfold h5;simp only[ct,bM,g0];have s:(∀e,e<c d.1->mu o d.1 e=i)↔(∀f∈d.1,mJ o f)/\d.1.Pairwise λf t=>f.1<t.1:=by
  rw[<-yv (ac:=λf:bU=>f.1) (N:=(0,[]))];have:(∀f∈d.1,mJ o f)↔∀f∈d.1,ho o f=i:=⟨λh f n=>wL.2 (h f n),λh f n=>wL.1 (h f n)⟩
  rw[this,<-yl (N:=(0,[]))];constructor
  .intro h;exact⟨λe a=>by have:=h e a;simp only[mu,ct]at this;exact this.1,λe a=>by have:=h e a;simp only[mu,ct]at this;exact this.2⟩
  intro h e a;simp only[mu,ct];grind
 have v:(∀e,e<c d.2.1->kr o d e=i)↔(∀g∈d.2.1,(1<=g.1/\g.1<=20)/\(e0 o g d.1).isSome=i)/\d.2.1.Pairwise λg w=>g.1<w.1:=by
  rw[<-yv (ac:=λf:fE=>f.1) (N:=(0,[]))];have:(∀g∈d.2.1,(1<=g.1/\g.1<=20)/\(e0 o g d.1).isSome=i)↔∀g∈d.2.1,(decide (1<=g.1/\g.1<=20)&&(e0 o g d.1).isSome)=i:=J;rw[this,<-yl (N:=(0,[]))];constructor
  .intro h;exact⟨λe a=>by have:=h e a;simp only[kr,ct]at this⊢;grind,λe a=>by have:=h e a;simp only[kr,ct]at this;exact this.1.2⟩
  intro h e a;have j:=h.1 e a;simp only[kr,ct]at j⊢;grind
 rw[s,v];constructor
 .rintro⟨⟨⟨⟨⟨⟨j,X⟩,p⟩,y,r⟩,u⟩,l⟩,q⟩;exact⟨j,X,p,y,r,u,l,q⟩
 rintro⟨j,X,p,y,r,u,l,q⟩;grind
theorem SI{a:e bq}{g d:bq}(f:d∈eo a g):d=g∨d∈a:=by
 induction a with
 |nil=>simp[eo]at f;grind
 |cons l j h=>
  simp only[eo]at f;grind
def SG{a:e an}{g:bq}(h:g∈eH o a):∃d∈a,g=(dF o d,eY d):=by
 have key:∀(a:e an) (f:e bq),g∈a.foldl (λj d=>eo j (dF o d,eY d)) f->g∈f∨∃d∈a,g=(dF o d,eY d):=by
  intro a;induction a with
  |nil=>grind
  |cons d n l=>
   grind[SI]
 rcases key a [] h with h|h
 .cases h
 grind
def zX{a:e bU}{f:Int}{g:an}(h:di o a f=b g):cp g=i/\dF o g=f/\f∈b9 a:=by
 unfold di at h;obtain⟨mo,p,d⟩:=List.exists_of_findSome?_eq_some h;unfold gi at d;split at d
 .rename_i l j;have q:l.1=f:=I4;have n:=uX j;unfold hQ gT at d;refine⟨by grind,by grind,nw.2 ⟨mo,p,fF.2 ⟨l,n,q⟩⟩⟩
 cases d
def Fq{a:e bU}{d:Int}(s:cB o=i)(n:∀g∈a,mJ o g)(r:d∈b9 a):∃g,di o a d=b g:=by
 obtain⟨mo,j,q⟩:=nw.1 r;obtain⟨v,u,w⟩:=fF.1 q;cases p:di o a d with
 |some g=>simp
 |none=>
  have h:gi o mo d=k:=List.findSome?_eq_none_iff.1 p mo j;unfold gi at h;split at h
  .rename_i l f;have x:l.1=d:=by simpa using List.find?_some f
   have t:=(n mo j).g_ l (uX f);unfold right at t;unfold hQ at h;grind
  rename_i f;have:=List.find?_eq_none.1 f v u;grind
def Rk{a g:e bU}(d:cB o=i)(j:∀h∈a,mJ o h)(s:∀f∈b9 g,f∈b9 a){f:Int}{h:an}(r:di o g f=b h):di o a f=b h:=by obtain⟨l,n,q⟩:=zX r;obtain⟨v,t⟩:=Fq d j (s f q);obtain⟨u,p,_⟩:=zX t;rw[t,wz d l u (n.trans p.symm)]
def Rl{a d:e bU}(s:∀(f:Int)(l:an),di o d f=b l->di o a f=b l){g:kY}{n:a'}(p:fT o d g=b n):fT o a g=b n:=by
 have key:∀h,g5 o d g.2=b h->g5 o a g.2=b h:=by
  intro h t;unfold g5 at *;split at t
  .rename_i j;cases t;have r:∀f∈g.2,di o a f=di o d f:=λf u=>by have:=aX.1 j f u;obtain⟨l,q⟩:=x_.1 this;simp_all
   simp_all
  cases t
 unfold fT at *;split at p
 .cases p
 simp_all
def UD{a d:e bU}(q:∀(l:Int)(n:an),di o d l=b n->di o a l=b n){f:fE}{p:e a'}(h:e0 o f d=b p):e0 o f a=b p:=by
 unfold e0 at *;split at h
 .rename_i u;cases h;simp only[ct]at u;have r:∀g∈f.2,fT o a g=fT o d g:=λg j=>by obtain⟨s,t⟩:=x_.1 (aX.1 u.1.2 g j);rw[t,Rl q t]
  have v:fb o a f.2=fb o d f.2:=pB λg j=>by simp_all
  simp_all
 cases h
section
variable {q:al R}[q.bT]
abbrev FQ:e a':=[([97],[104,101,108,108,111])]
def RN:dm FQ=i:=xR
abbrev L_(d:Nat):={a:e a'×Nat // dm a.1=i/\d<=a.2/\a.2<=d+400}
def OV(f:Nat)(d:Nat->Int)(u:Bytes d)(e:Nat)(l:e<=50000)(s:f<=1048576):
  bG (ι:=L_ e) q 88 [ba 0 0] [dD f d e] (λn=>bf.M n.1.1) (λn=>[dD f d n.1.2]):=by
 refine bG.cO func88 rfl rfl rfl λx=>?_;refine a8 a M (g.a4 (Fd f d u e l s) [0] a bN ?_);rintro⟨h,r,O,k1,j,y,p,o⟩;refine a_ [902] a M (g.gG 3 1 (bf.fn h) a a j.rd ?_);refine a8 a M (g.aF (Ff h) [] a ?_);cases t:dm h with
 |true=>
  refine a8 a M (g.bS ⟨(h,k1),t,p,o⟩ (g.aQ [0] a ?_ gN));simp
 |false=>
  refine a8 a M (g.bS ⟨(FQ,k1),RN,p,o⟩ (g.aQ [0] a ?_ gN));refine⟨a,λw v=>?_⟩;have:w=0:=J;exact bH
end
section
variable {q:al R}
theorem GO{a:e cJ}(h:jQ a (c a)=i):(∀f∈a,fr f=i)/\a.Pairwise λf j=>f.1<j.1:=by
 have l:=g0.1 h;have n:∀d,d<c a->∀g,g<d->(a.getD g (0,0)).1<(a.getD d (0,0)).1:=by
  intro d;induction d with
  |zero=>grind
  |succ d o=>
   grind
 grind[List.getElem_of_mem,List.pairwise_iff_getElem]
def Rs(a:e cJ):∀d:e cJ,(d++a).Pairwise (λf g=>f.1<g.1)->a.foldl dW d=d++a:=by
 induction a with
 |nil=>grind
 |cons f j h=>
  grind[TH]
def Wr{a:e cJ}(j:jQ a (c a)=i)(d:Int):(h7 a).find d=hV a d:=by obtain⟨f,g⟩:=IJ a .nil bH;have h:=Rs a [] (by grind[GO]);rw[h7,z1 g,f];exact er (hV · d) h
def IK{d:e a'}(g:dm d=i):∀a∈d,fa a.2=i:=λa f=>((ut.1 g).1 a f).2
abbrev EE(a:e an):s:=.k (.S (.q 2 1 (c a) (bD.fn a)))
def QK(u p:ab×I)(n:Int)(j:e a')(d:e cJ)(r:cB n=i)(E:dm j=i)(D:jQ d (c d)=i)(ah:c d<=4000000):
  ad q 64 [S n,bf.M j,bV.M d] (gB u p) (bD.M (e6 n j d)) (gB u p):=by
 refine ad.E func64 rfl λaq=>?_;have P:a3 q [(55,df dc (λn=>bm (cB n)) λ_=>[]),(21,qY),(117,df (fQ bV) (λd=>bm (jQ d (c d))) λ_=>[])]:=.cons t55 (.cons t21 (.cons (.a3 λd _=>Pp d) .nil));refine bs P [-15,-20,-25] a ?_ ?_
 .simp only[V,r,bf.aa,bV.aa,lI,E,D];exact⟨a,bV.ad _,a,bf.ad _,a⟩
 have G:=GO D;have T:∀y∈d,a9 .i64 y.1/\a9 .i64 y.2:=λy a1=>by have:=G.1 y a1;simp only[fr,ct,bM]at this;simp only[a9];omega
 have aG:=Wr D;have ai:=Fe (q:=q) d ah T;have X:∀v,ad q 119 [aL (ev (h7 d)),S v] [] (S (hV d v)) []:=λv=>aG v▸OT (h7 d) v
 clear aG;generalize h7 d=K at *;have z:a3 q [(118,k' [o2 d] (aL (ev K)))]:=.cons (nh ai) .nil;cases K<;>(
  refine c0 z a a (g.bH 8 9 1 a a ?_);refine g.db 3 [0,7,29,30] (λf=>f<=c j) (λf:Nat=>[(8,EE ((eC (j.take f)).foldl (eP n d) [])),(31,S f)]) (λf=>gB u p++[.q 9 1 (c ((eC (j.take f)).foldl (eP n d) [])) (bD.fn ((eC (j.take f)).foldl (eP n d) []))]) (λf=>c j-f) 0 a ?_ a ?_ a x ?_
  .simp[eC]
  .simp[eC]
  intro f ae;by_cases Z:f<c j
  .have L:j.getD (f:Int).toNat bf.N=j.getD f ([],[]):=J;have N:j.getD f ([],[])∈j:=J;have al:=IK E _ N;have B:=CU Z;have H:=CS j (f+1);have F:=jw E;have Y:=(F.ed _ N).1;have aj:=F.all;have ak:=F.len;have U:=tZ Y;generalize j.getD f ([],[])=l at *;rw[B,dZ]at H;have W:iO l.2=cc l.2:=by unfold iO;grind
   have A:a3 q [(11,df dT (λaf=>bD.M (iO af)) λ_=>[])]:=.cons xm .nil;refine bs A [32] a bx ?_;rw[L,W];refine g.db 4 [0,7,29,30,31,37,38] (λh=>h<=c (cc l.2)) (λh:Nat=>[(8,EE ((eC (j.take f)++(cc l.2).take h).foldl (eP n d) [])),(39,S h)]) (λh=>gB u p++[.q 9 1 (c ((eC (j.take f)++(cc l.2).take h).foldl (eP n d) [])) (bD.fn ((eC (j.take f)++(cc l.2).take h).foldl (eP n d) [])),.cells 74 [.c (.R l.1),.c (.R l.2)]]) (λh=>c (cc l.2)-h) 0 a Q a Q a x ?_;intro h ao;have s:=z8 n d (eC (j.take f)++(cc l.2).take h) [];simp only[gX,dZ,List.length_take]at s;by_cases an:h<c (cc l.2)
   .have ag:(cc l.2).getD (h:Int).toNat bD.N=(cc l.2).getD h []:=J;have C:cp ((cc l.2).getD h [])=i:=U _ J;have t:(eC (j.take f)++(cc l.2).take (h+1)).foldl (eP n d) []=eP n d ((eC (j.take f)++(cc l.2).take h).foldl (eP n d) []) ((cc l.2).getD h []):=lK;generalize(eC (j.take f)++(cc l.2).take h).foldl (eP n d) []=c8 at *;generalize(cc l.2).getD h []=w at *;have a1:=bD.aZ c8 w;refine b6 [40] a bx ?_;rw[ag];refine g.aF (zK u p n w r C) [0,1] a (g.aF (X _) [] a ?_);have o:a3 q [(121,Dv)]:=.cons VF .nil;by_cases R:hV d (dF n w)=0
    .cases ax:c8.contains w with
     |true=>
      rw[eP,bp J]at t;refine bs o [49,-54] a ?_ (g.av (h+1) a ?_ ?_ ?_ ?_)
      .simp only[V,R,ax,a9,bD.aa,j8,bM,bn,bl];exact Kx
      .rw[t];simp
      .rw[t];simp
      .grind
      omega
     |false=>
      rw[eP,bF J]at t;refine bs o [49,54] a ?_ (g.av (h+1) a ?_ ?_ ?_ ?_)
      .simp only[V,R,ax,a9,show p7.bytes=16 from a,bD.aa,j8,bM,bn,bl];exact Kx
      .exact Jh
      .exact Jh
      .grind
      omega
    rw[eP,bp J]at t;refine bs o [-49] a bH (g.av (h+1) a ?_ ?_ ?_ ?_)
    .rw[t];simp
    .rw[t];simp
    .grind
    omega
   have O:h=c (cc l.2):=x;refine b6 [-40] a bx (g.aA ?_);refine cq a bH (g.av (f+1) a ?_ ?_ ?_ ?_)
   .rw[B,O,eB];simp
   .rw[B,O,eB];simp
   .grind
   omega
  .obtain rfl:f=c j:=x;rw[eB];refine b6 [-32] a Q (g.aA ?_)
   refine cq a M (g.aQ [0,1] a ?_ oP);simp[e6,eC])
abbrev V2(a:bU×Bool):s:=.C [.agg [.c (.int .i64 a.1.1),.c (.M m 2 (c a.1.2) (bS.fn a.1.2))],.S (.c (.bool a.2))]
def fV(d:Int)(a:an):bq:=(dF d a,eY a)
def rL(a f:Int)(d:e an):bU:=(a,kQ (d.map (fV f)))
def kM(a f:Int)(d:e an):bU×Bool:=if ho f (rL a f d)=i then(rL a f d,i)else((0,[]),m)
theorem wU:∀(d a:e bq),c (d.foldl gU a)=c a+c d
 |[],a=>by simp
 |f::d,a=>by rw[hx,wU d,Hn,fR];omega
def IQ:∀(f:Nat){d:e bq}{g:Nat},fO d->g<c d->fO (h8 f d g)
 |0,_,_,a,_=>a
 |f+1,d,g,a,h=>by
  rw[h8];split
  .exact a
  split
  .exact IQ f (r5 a x h) oo
  grind
theorem TA{f:e bq}{a:bq}(g:fO f)(l:a9 .i64 a.1/\c a.2<=9223372036854775807):fO (gU f a):=by
 refine IQ _ (λj h=>?_) Q;rcases fu.1 h with d|d
 .exact g j d
 grind
def Tq{a:e bq}(d:fO a)(f:0<c a):fO (gw a):=
 zz _ _ (r5 d f x) oo oo
theorem Gx{a:an}(d:cp a=i):a9 .i64 (fV o a).1/\(fV o a).2.length<=9223372036854775807:=by
 have e:=d;simp only[cp,ct,bM]at e;have f:=qK (fG a*(2*o+1)+o*7919) (show(999999999989:Int)≠0 by decide);have g:=qF (fG a*(2*o+1)+o*7919) (show(0:Int)<999999999989 by decide);refine⟨?_,?_⟩
 .show a9 .i64 (dF o a);simp only[a9,dF];omega
 show c (eY a)<=_;unfold eY eT;grind
def Gd(h:Int)(a:e an)(j:∀f∈a,cp f=i):fO ((a.map (fV h)).foldl gU []):=by
 have:∀(d:e an) (g:e bq),(∀f∈d,cp f=i)->fO g->fO ((d.map (fV h)).foldl gU g):=by
  intro d;induction d with
  |nil=>grind
  |cons f n l=>grind[TA,Gx]
 exact this a [] j (by simp[fO])
abbrev Hh(g f:ab×I)(h:Nat)(a:dy)(d:e bq):e Y:=gB g f++[.cells 61 [.c (.int .i64 0),.c (.M i 0 0 λ_=>[])],hy h a (c d),ao a (c d) d]
abbrev A3(d:Int)(a:e bq):e Y:=[.cells 61 [.c (.int .i64 d),.q 6 2 (c a) (bS.fn a)],.q 87 2 (c a) (bS.fn a)]
def E3(y w:ab×I)(j h:Int)(d:e an)(H:a9 .i64 j)(cI:cB h=i)(T:∀z∈d,cp z=i)(az:c d<=4):
  ad q 66 [S j,S h,bD.M d] (gB y w) (V2 (kM j h d)) (gB y w):=by
 refine ad.cS bv func66 rfl rfl rfl λay=>?_;refine b6 [902] a M (g.jC 8 3 87 2 a a λv al=>?_);refine cq a M (g.db 5 [0,1,6,8,14,15] (λo:Nat×dy=>o.1<=c d) (λo=>[(16,S o.1)]) (λo=>Hh y w v o.2 (((d.take o.1).map (fV h)).foldl gU [])) (λo=>c d-o.1) (0,.nil al) a Q a ?_ a x ?_)
 .simp[fU]
 rintro⟨f,b'⟩ R;simp only at R;by_cases u:f<c d
 .have G:d.getD (f:Int).toNat bD.N=d.getD f []:=J;have af:cp (d.getD f [])=i:=T _ J;have L:((d.take (f+1)).map (fV h)).foldl gU []=gU (((d.take f).map (fV h)).foldl gU []) (fV h (d.getD f [])):=lK;have ar:c (((d.take f).map (fV h)).foldl gU [])=f:=by grind[wU]
  have O:=Gd h (d.take f) λz W=>T z (gE W);generalize d.getD f []=z at *;generalize((d.take f).map (fV h)).foldl gU []=l at *;refine bs (.cons xo .nil:a3 q [(125,kx)]) [17] a bx ?_;rw[G];refine g.aF (zK y w h z cI af) [0,1] a (c0 (.cons xo .nil:a3 q [(125,kx)]) a M (g.a4 (Pb v b' O x (A:=fV h z) (Gx af)) [3,4] a bN λC=>?_));have ae:=Hn l (fV h z);refine cq a bH (g.av (f+1,C) a Q dX J ?_);grind
 obtain rfl:f=c d:=x;rw[eB];refine b6 [-17] a Q (g.aA ?_);have ax:c ((d.map (fV h)).foldl gU [])<=4:=by grind[wU]
 have O:=Gd h d T;have ah:kQ (d.map (fV h))=[]++jT (c ((d.map (fV h)).foldl gU [])) ((d.map (fV h)).foldl gU []):=by rw[kQ,wU,nx,gX,cX]
 refine cq a M (g.cP 5 1 87 2 (bS.fn []) a a ?_);refine g.db 7 [1,6,8,11] (λo:e bq×dy×e bq=>fO o.1/\c o.1+c o.2.2<=4/\kQ (d.map (fV h))=o.2.2++jT (c o.1) o.1) (λo=>[]) (λo=>Hh y w v o.2.1 o.1++A3 j o.2.2) (λo=>c o.1) ((d.map (fV h)).foldl gU [],b',[]) a Q a Q a ⟨O,by grind,ah⟩ ?_;rintro⟨u,b',n⟩ ⟨U,ai,F⟩;simp only at U ai F;refine cq a M (g.aI (aR.du a a) a a ?_);refine g.S (a0.ej bv 3 a a a a a (r1 b' _) a) a ?_;refine g.aF (zE b' (c u) u) [4] a ?_;by_cases ak:c u=0
 .rw[ak,jT,iJ]at F;subst F;refine b6 [-37] a dX (g.aA ?_);have X:a3 q [(106,y2)]:=.cons Ir .nil;have aw:c (kQ (d.map (fV h)))<=4:=x;cases ag:ho h (rL j h d)with
  |false=>
   have t:ho h (j,kQ (d.map (fV h)))=m:=ag;have N:kM j h d=((0,[]),m):=by unfold kM;grind
   rw[N];refine bs X [50] a Ll (g.dD () [0,1] ?_ oP);simp
  |true=>
   have t:ho h (j,kQ (d.map (fV h)))=i:=ag;have N:kM j h d=(rL j h d,i):=by unfold kM;grind
   rw[N];refine bs X [-50] a Ll (g.dD () [0,1] ?_ oP);simp[rL]
 obtain⟨p,E⟩:∃p,c u=p+1:=⟨c u-1,by omega⟩
 refine b6 [37,909] a bx (g.fb (FN (f:=4) (p:=c u) (b':=b') (l:=u) a x) λP=>?_);obtain⟨B,r,rfl,Y⟩:=P;rw[E]at Y;have W:=Pa (q:=q) v B r U E x Y;have aj:=Tq U x;have ae:c ((gw u).take p)=p:=by grind[Hi]
 have aq:kQ (d.map (fV h))=(n++[(gw u).getD p (0,[])])++jT p ((gw u).take p):=by rw[F,E,jT,bp x,E];simp
 have au:fO ((gw u).take p):=λA K=>aj A (gE K);show g q _ _ _ _ _ (gB y w++[.cells 61 [.c (.int .i64 0),.c (.M i 0 0 λ_=>[])],hy v (.row B r) (c u),ao (.row B r) (c u) u]++A3 j n);rw[E];generalize(gw u).getD p (0,[])=A at *;generalize(gw u).take p=Z at *;refine g.eV (ι:=Unit) c5 4 7 10 (λh=>aD h 3) (λh=>([ba 5 1,.k (.S (.q 6 2 (c n) (bS.fn n))),gq (.pointer (b ⟨v,0,k⟩)),q8 v]:e s).getD h .any) (λ_ h=>([.any,.any,.any,.any,q7 A,vG A,aL (.M i 2 1 λf=>([[.int .i64 A.1,.R A.2]]:e (e D)).getD f [])]:e s).getD h .any)
  (λ_=>gB y w++[.cells 61 [.c (.int .i64 0),.c (.M i 0 0 λ_=>[])],hy v (.row B r) p,ao (.row B r) p Z]++A3 j n)
  rfl rfl rfl rfl rfl rfl rfl (λh u=>by have:=e' u;omega) rfl
  ⟨a0.x,a0.x,a0.x,a0.x,M,M,M,M,M,M,M⟩
  (λ_=>⟨a0.x,a0.x,a0.x,a0.x,M,a0.aT (jY a) (aR.fL (aY:=[.int .i64 A.1,.R A.2]) bv a a a a),a0.x,M⟩)
  (d'.eh W.tocm [3,4] a a a a a a a bN a bN) λ_=>?_
 have K:=bS.aZ n A;refine cq a ?_ (g.av (Z,.row B r,n++[A]) a ?_ ?_ ?_ ?_)
 .simp only[V,show kk.bytes=24 from a,bn];omega
 .simp
 .simp only[ae,V.W,V,dZ,fR,gX,bn,bl];and_intros<;>first|exact b4.same|exact K|rfl
 .grind
 grind
abbrev V'(a:fE):s:=.C [.agg [.c (.int .i64 a.1),.c (.M m 2 (c a.2) (cP.fn a.2))],.S (.c (.bool i))]
abbrev H7(g f:ab×I)(d:Int)(a:e kY):e Y:=gB g f++[.cells 65 [.c (.int .i64 0),.c (.M i 0 0 λ_=>[])],.cells 65 [.c (.int .i64 d),.q 4 2 (c a) (cP.fn a)],.q 135 2 (c a) (cP.fn a)]
abbrev UF(d:a')(a:e Int):e Y:=[.cells 74 [.c (.R d.1),.c (.R d.2)],.cells 135 [.c (.R d.1),.q 7 1 (c a) (cx.fn a)],.q 3 1 (c a) (cx.fn a)]
def QL(u t:ab×I)(n d:Int)(l:e a')(ak:1<=n/\n<=99)(v:cB d=i)(A:dm l=i):
  ad q 67 [S n,S d,bf.M l] (gB u t) (V' (f' n d l)) (gB u t):=by
 refine ad.cS bv func67 rfl rfl rfl λah=>?_;have G:a3 q [(55,df dc (λd=>bm (cB d)) λ_=>[]),(21,qY)]:=.cons t55 (.cons t21 .nil);refine bs G [-15,-19,-24,-29] a ?_ ?_
 .simp only[V,v,bf.aa,lI,A,d6];and_intros<;>first|exact bf.ad _|rfl|omega
 refine g.cP 3 1 135 2 (cP.fn []) a a ?_;refine g.db 5 [1,6,8,33,34] (λf=>f<=c l) (λf:Nat=>[(35,S f)]) (λf=>H7 u t n (m8 d (l.take f))) (λf=>c l-f) 0 a Q a Q a x ?_;intro f R;by_cases aj:f<c l
 .have ae:l.getD (f:Int).toNat bf.N=l.getD f ([],[]):=J;have B:l.getD f ([],[])∈l:=J;have F:=jw A;have N:=F.ed _ B;have ag:=IK A _ B;have s:=F.len;have W:=tZ N.1;have af:=qf (l.getD f ([],[])).2;have E:m8 d (l.take (f+1))=m8 d (l.take f)++[iV d (l.getD f ([],[]))]:=lK;have C:c (m8 d (l.take f))=f:=J;generalize l.getD f ([],[])=h at *;generalize m8 d (l.take f)=o at *;have Z:iO h.2=cc h.2:=by unfold iO;grind
  have z:a3 q [(11,df dT (λX=>bD.M (iO X)) λ_=>[])]:=.cons xm .nil;refine bs z [36] a bx ?_;rw[ae,Z];refine g.cP 6 1 3 1 (cx.fn []) a a ?_;refine g.db 8 [1,6,8,10,11,33,34,35,44,45] (λj=>j<=c (cc h.2)) (λj:Nat=>[(46,S j)]) (λj=>H7 u t n o++UF h (jp d ((cc h.2).take j))) (λj=>c (cc h.2)-j) 0 a Q a Q a x ?_;intro j L;by_cases ai:j<c (cc h.2)
  .have p:(cc h.2).getD (j:Int).toNat bD.N=(cc h.2).getD j []:=J;have U:cp ((cc h.2).getD j [])=i:=W _ J;have T:jp d ((cc h.2).take (j+1))=jp d ((cc h.2).take j)++[dF d ((cc h.2).getD j [])]:=lK;have H:c (jp d ((cc h.2).take j))=j:=J;generalize(cc h.2).getD j []=w at *;generalize jp d ((cc h.2).take j)=r at *;have y:=cx.aZ r (dF d w);refine b6 [47,911] a bx ?_
   rw[p];refine g.fT c5 [ba 6 1,.k (.S (.q 7 1 (c r) (cx.fn r))),S d,bC w,S (dF d w),aL (.M i 1 1 λf=>([[.int .i64 (dF d w)]]:e (e D)).getD f [])] 6 a a a a a ⟨a0.x,a0.x,a0.x,a0.x,
    a0.er (d'.eh (zK u t d w v U).tocm [0,1] a a a a a a a bN a bN),a0.x,M⟩ ?_
   refine cq a ?_ (g.av (j+1) a ?_ ?_ ?_ ?_)
   .simp only[V,a9,show fh.bytes=8 from a,bn,bl];exact e_
   .simp
   .simp only[T,V.W,V,dZ,fR,gX,bn,bl];and_intros<;>first|exact b4.same|exactλ_ _=>rfl|exact y|rfl|omega
   .grind
   omega
  have Y:j=c (cc h.2):=x;rw[Y,eB];have y:=cP.aZ o (iV d h);have K:c o+1=c (o++[iV d h]):=Q;have O:cP.a1 (iV d h)=[D.R h.1,D.M m 1 (c (jp d (cc h.2))) (cx.fn (jp d (cc h.2)))]:=rfl;rw[O,<-E]at y;rw[<-E]at K;refine b6 [-47] a Q (g.aA ?_);refine cq a JI (g.av (f+1) a Q ?_ ?_ ?_)
  .simp only[V.W,V,bn,bl];and_intros<;>first|exact b4.same|exact y|exact K|rfl
  .grind
  omega
 obtain rfl:f=c l:=x;rw[eB];refine b6 [-36] a Q (g.aA ?_);refine cq a M (g.dD () [0,1] ?_ oP);simp[f']
end
end R1
section
namespace R1
variable {q:al R}
section
def FZ:bh:=⟨1,8,m,TypeDesc.map 9 9,[.val (.map k)],[]⟩
def RE:en R 140 FZ:=⟨underlying140,rfl,⟨Tryz.t140,_,kl type140,rfl,rfl,rfl,rfl,⟨#[],rfl⟩,rfl⟩,λd=>absurd a d⟩
def FX:bh:=⟨1,8,m,TypeDesc.map 9 140,[.val (.map k)],[]⟩
def RD:en R 68 FX:=⟨underlying68,rfl,⟨Tryz.t68,_,kl type68,rfl,rfl,rfl,rfl,⟨#[],rfl⟩,rfl⟩,λd=>absurd a d⟩
def fj:bT R ((140,FZ)::(68,FX)::ew):=bT.cons RE (bT.cons RD bv)
end
def iS(a:aC):an:=match a.key with|.string d=>d.data.toList|_=>[]
def jn(a:Array aC):e an:=a.toList.map iS
def pw(d:Array aC):Prop:=∀a∈d.toList,a.key=ca (iS a)/\dx a.val=i
def wB{a:Array aC}{j:Nat}(g:MapKept.Stamped a j)(f:pw a):(jn a).Nodup:=by
 have e:(a.toList.map (·.key))=(jn a).map ca:=by simp only[jn,sQ];apply pB;intro d h;exact(f d h).1
 have:=g.2.2;rw[e]at this;rw[List.Nodup,qG]at this;exact this.imp λe d=>e (er ca d)
def lS(a:Array aC)(pre:e an)(d:Array Nat):Prop:=pre.Nodup/\(∀g∈pre,g∈jn a)/\∀f∈a.toList,f.born∈d↔iS f∈pre
def lS.start(a:Array aC):lS a [] #[]:=⟨List.nodup_nil,by simp,by simp⟩
def lS.step{d:Array aC}{pre:e an}{h:Array Nat}{t:Nat}(n:lS d pre h)(q:MapKept.Stamped d t)(p:pw d){g:aC}(o:g∈d.toList)(w:g.born∉h):lS d (pre++[iS g]) (h.push g.born)/\iS g∉pre:=by
 have r:iS g∉pre:=λv=>w ((n.2.2 g o).2 v);refine⟨⟨?_,?_,?_⟩,r⟩
 .rw[qH];refine⟨n.1,by simp,λy u z s=>?_⟩;simp at s;subst s;rintro rfl;exact r u
 .intro x j;rcases fu.1 j with j|j
  .exact n.2.1 x j
  simp at j;subst j;exact List.mem_map_of_mem o
 intro l f;simp only[Array.mem_push,fu,eN,n.2.2 l f];constructor
 .rintro(a|a)
  .exact .inl a
  right;rw[AK q.2.1 f o a]
 rintro(a|a)
 .exact .inl a
 right;have:l=g:=AK (ac:=iS) (wB q p) f o a;rw[this]
def lS.over{a:Array aC}{pre:e an}{d:Array Nat}{n:Nat}(g:lS a pre d)(l:MapKept.Stamped a n)(h:pw a)(o:∀f∈a.toList,f.born∈d):pre.Perm (jn a):=by
 refine(List.perm_ext_iff_of_nodup g.1 (wB l h)).2 λq=>⟨g.2.1 q,λp=>?_⟩
 obtain⟨f,j,rfl⟩:=fF.1 p;exact(g.2.2 f j).1 (o f j)
abbrev DA(a:Nat):D:=.fn (.func 134) [] [.U [.val (.map (b a))]]
set_option maxRecDepth 20000 in
def PB(d:Nat):ad q 82 [ce (.map (b d))] [] (aL (DA d)) []:=by refine ad.E func82 rfl λe=>?_;refine is [] 5 a M ?_;refine g.freeze 1 0 a a a ?_;exact a8 a M (g.an a)
set_option maxRecDepth 20000 in
def PC{ag:Type}{a1:Nat}{es:Array aC}{u:Nat}(B:qy H a1 es u)(y:MapKept.Stamped es u)(j:pw es)(I:∀ak∈es.toList,c (iS ak)<=9223372036854775807){h:Nat}{f:bd}{w:Loop}(s t:ag->Y)(v:e an->ag->Prop)(o:ag)(N:v [] o)(ao:∀n,s n≠.a2/\t n≠.a2)(l:∀pre d n E,d∈jn es->d∉pre->pre.Nodup->(∀cd∈pre,cd∈jn es)->v pre n->i7 (ι:={r:ag // v (pre++[d]) r}) q 3 [bC d] [s n,.Q H,t n,.loop h f w,.Q E] i (λr=>[s r.1,.Q H,t r.1,.loop h f w,.Q E])):
  bG (ι:={D:ag×e an×Array Nat // D.2.1.Perm (jn es)/\v D.2.1 D.1}) q 134 [.k (.S (.aD 3)),aL (.U [.val (.map (b a1))])] [s o,.Q H,t o,.loop h f w] (λ_=>.C []) (λx=>[s x.1.1,.Q H,t x.1.1,.loop h f w,.Q (i5 a1 u x.1.2.2)]):=by
 refine bG.f' func134 rfl rfl rfl (g.aW ?_);refine g.aX c5 fj a3.nil [] 100 a M (g.range (ml:=1) (a1:=a1) a a a a underlying140 (bQ.j8 a) a B ?_);refine g.aX c5 fj a3.nil [] 100 a M ?_;show bX q _ (.loop _) _ _ _;refine bX.loop (bg:=ag×e an×Array Nat) (λd=>lS es d.2.1 d.2.2/\v d.2.1 d.1) (λ_=>[(0,.k (.S (.aD 3))),(5,.k (.S (.aD 4)))]) (λd=>[s d.1,.Q H,t d.1,.loop h f w,.Q (i5 a1 u d.2.2)]) (λd=>c (jn es)-c d.2.1) (o,[],#[]) ⟨lS.start es,N⟩ (et a Q) a ?_;rintro⟨n,pre,eQ⟩ ⟨z,F⟩;refine g.aW ?_;refine g.aX c5 fj a3.nil [] 100 a M (g.next (ml:=1) (im:=4) (a1:=a1) (u:=u) (eQ:=eQ) (es:=es) a a a a a a a a B y (λak p=>⟨by rw[(j ak p).1];rfl,(j ak p).2⟩) λx=>?_);cases x with
 |over A=>
  refine g.aX c5 fj a3.nil [-7] 100 a Q (g.fi a a ?_);exact⟨⟨(n,pre,eQ),z.over y j A,F⟩,.inr a,a,rI (ao n).1 (rI (bR:=.Q H) Q (rI (ao n).2 a)),[],.C [],[],a,a,a,M⟩
 |S ak p R=>
  refine g.aX c5 fj a3.nil [7] 100 a Q ?_;obtain⟨k1,K⟩:=j ak p;have J:=I ak p;obtain⟨C,O⟩:=z.step y j p R;refine g.entry (ml:=1) (im:=4) (a1:=a1) (u:=u) (eQ:=eQ) (es:=es) (ak:=ak) (cd:=.C [.S (.c (.R (iS ak))),.S .any]) a a a a a a a B y p (λS=>⟨[ak.key,ak.val],a,?_,K,M⟩) ?_
  .rw[k1];exact Rd.R a J
  refine g.aX c5 fj a3.nil [] 100 a M (g.yield (l pre (iS ak) n _ (List.mem_map_of_mem p) O z.1 z.2.1 F) a a a a a a λr=>?_);refine g.aX c5 fj a3.nil [-13] 100 a Q ⟨(r.1,pre++[iS ak],eQ.push ak.born),⟨C,r.2⟩,?_,et a Q,a⟩;have:=tJ C.1 C.2.1;simp at this⊢;omega
end R1
end
section
namespace R1
variable {q:al R}[q.bT]
abbrev fp:Y:=.cells 27 [eu,eu,eu]
abbrev f92(d:e a')(a:Nat):bd:=[(0,ba 0 0),(2,ba 1 0),(3,ba 2 0),(4,bf.M d),(5,S a)]
end R1
end
namespace R1
section
variable {q:al R}
def MD{d e:Z}(f:r.op=.call {callee:=.builtin .append,args:=#[d,e],argTypes:=#[36,36]}):h9 R r d e 9 p7:=
 ⟨⟨36,36,Ak,Ak,f,(bv _ _ a),rfl,(bv _ _ a),rfl⟩,(bv _ _ a),by decide,by decide⟩
def UE{l:e an}{pre:e an}{d:an}(p:d∈l)(n:d∉pre)(j:pre.Nodup)(h:∀f∈pre,f∈l):c pre+1<=c l:=by
 have:=tJ (U:=pre++[d]) (l:=l) (by
  rw[qH];refine⟨j,by simp,λq o r g=>?_⟩
  simp at g;subst g;rintro rfl;exact n o) (by
  intro f a;rcases fu.1 a with a|a
  .exact h f a
  .simp at a;subst a;exact p)
 simpa using this
set_option maxRecDepth 20000 in
def Oc{a1:Nat}{es:Array aC}{u:Nat}(E:qy H a1 es u)(v:MapKept.Stamped es u)(r:pw es)(w:∀n∈es.toList,c (iS n)<=9223372036854775807)(b':dy)(l:e an)(S:c l+c (jn es)<=4000000):
  bG (ι:={f:dy×e an // f.2.Perm (jn es)}) q 81 [ce (cT b' (c l)),aL (DA a1)] [.Q (gH 9 b' (l.map ca)),.Q H]
   (λf=>ce (cT f.1.1 (c (l++f.1.2)))) (λf=>[.Q (gH 9 f.1.1 ((l++f.1.2).map ca)),.Q H]):=by
 refine bG.ff func81 rfl rfl rfl λV=>?_;refine de.seq (bX.bn (g.aW ?_));refine a8 a M (de.seq (de.seq (bX.bn (g.aW ?_))));refine a8 a M (de.block ?_);refine de.rangeFunc (oJ:=fm [.U [.val (.map (b a1))]]) (bQ.callee a) (PC (ag:=dy×e an) E v r w (λh=>.Q (gH 9 h.1 (h.2.map ca))) (λh=>.cells 36 [.v (cT h.1 (c h.2))]) (λpre h=>h.2=l++pre) (b',l) Q (λh=>⟨by simp,by simp⟩) ?_) (λs=>⟨a,by simp⟩) λs=>⟨.normal,a,?_⟩
 .rintro pre j ⟨s0,d⟩ J C A X t o;obtain rfl:d=l++pre:=o;have T:c (l++pre)+1<=4000000:=by have:=UE C A X t;simp;omega
  refine i7.intro (y:=k) a a a a (g.aW ?_);refine a8 a M ⟨a,a,g.aW ?_⟩;refine a8 a M (g.hV (l:=0) (b':=s0) (O:=(l++pre).map ca) (p:=c (l++pre)) (dQ:=ca j) (u:=.R j) (MD a) a a a a a Q a a a (λN U x=>r3 x) (by show _*16<=_;omega) λz=>?_);refine a8 a M ?_;have n:(l++pre).map ca++[ca j]=(l++(pre++[j])).map ca:=Q;have I:c (l++pre)+1=c (l++(pre++[j])):=cb;rw[n,I];exact⟨a,a,⟨(z,l++(pre++[j])),a⟩,jm a Q⟩
 show de q _ _ _ _ _;obtain⟨⟨⟨s0,d⟩,pre,D⟩,B,o⟩:=s;obtain rfl:d=l++pre:=o;refine bX.bn (g.aW ?_);refine a8 a M (g.bC (λn K R f=>⟨⟨(s0,pre),B⟩,f⟩) (g.aQ [0,1] a Q ?_));intro y F;rcases y with _|_|y
 .rfl
 .rfl
 simp at F;omega
structure oq where
 r0:Nat
 c':Array aC
 dL:Nat
 eM:an->Option (Nat×Array aC×Nat)
abbrev fd(f:e a')(a:oq):I->(Nat->Option Obj)->Prop:=λg d=>hJ f g d a.r0 a.c' a.dL a.eM
def x7(h:al R)(g:Nat):Prop:=∀(a:dy)(f:e an),c f<=g->(∀n∈f,c n<=9223372036854775807)->∃d:e an,d.Perm f/\d.Pairwise (λj l=>aK l j=m) /\
 ad h 83 [ce (cT a (c f))] [.Q (gH 9 a (f.map ca))] (.C []) [.Q (gH 9 a (d.map ca))]
def oq.cY(d:oq)(f:an):e an:=match d.eM f with
 |some (_,a,_)=>jn a
 |none=>[]
def pT{a:aC}{d:an}(e:a.key=ca d):iS a=d:=by simp[iS,e,ca]
section facts
variable {l:e a'}{ac:oq}(n:fd l ac ai eb)
include n
def fd.ei:pw ac.c':=by intro f e;obtain⟨l,o,g,j,a,d,h⟩:=n.dr f e;rw[pT a];exact⟨a,by rw[d];rfl⟩
def fd.g4{l:an}{o:Nat}{a:Array aC}{h:Nat}(f:ac.eM l=b (o,a,h)):pw a:=by intro j g;obtain⟨r,s,d,e,q,p⟩:=n.ds _ _ _ _ f j g;rw[pT d];exact⟨d,by rw[e];rfl⟩
def fd.ja{l:an}{q:Nat}{a:Array aC}{j:Nat}(f:ac.eM l=b (q,a,j)):∀d∈a.toList,c (iS d)<=9223372036854775807:=by intro d g;obtain⟨p,r,e,o,h,s⟩:=n.ds _ _ _ _ f d g;rw[pT e];exact(n.len p r h).1
def fd.eS{r o:an}:o∈ac.cY r↔eV o=r/\o∈l.map (·.1):=by
 unfold oq.cY;constructor
 .intro f;split at f
  .rename_i w es u e;obtain⟨h,g,rfl⟩:=fF.1 f;obtain⟨p,q,d,j,v,t⟩:=n.ds _ _ _ _ e h g;rw[pT d];exact⟨t,fF.2 ⟨(p,q),v,a⟩⟩
  simp at f
 rintro⟨rfl,f⟩;obtain⟨⟨p,q⟩,s,rfl⟩:=fF.1 f;obtain⟨w,es,u,e,h,g,d,j⟩:=n.all p q s;simp only[e];exact fF.2 ⟨h,g,pT d⟩
def fd.jE(d:an):(ac.cY d).Nodup:=by
 unfold oq.cY;split
 .rename_i e es u a;exact wB (n.cI _ _ _ _ a).2.1 (fd.g4 n a)
 exact List.nodup_nil
def fd.gR{pre:e an}(a:pre.Nodup):(pre.flatMap ac.cY).Nodup:=by
 induction pre with
 |nil=>simp
 |cons j s o=>
  rw[u9]at a;rw[oy,qH];refine⟨fd.jE n j,o a.2,λq p r d=>?_⟩;rintro rfl;obtain⟨l,h,d⟩:=nw.1 d;have f:=((fd.eS n).1 p).1;have g:=((fd.eS n).1 d).1;rw[<-f,g]at a;exact a.1 h
theorem fd.iL{pre:e an}(d:pre.Nodup):c (pre.flatMap ac.cY)<=c l:=by
 have:=tJ (l:=l.map (·.1)) (fd.gR n d) λg a=>by obtain⟨f,_,a⟩:=nw.1 a;exact((fd.eS n).1 a).2
 simpa using this
def fd.iI{pre:e an}(h:pre.Perm (jn ac.c')):(pre.flatMap ac.cY).Perm (l.map (·.1)):=by
 have t:pre.Nodup:=h.nodup_iff.2 (wB n.dB (fd.ei n));have j:(l.map (·.1)).Nodup:=by rw[List.Nodup,qG];exact n.c0.imp λs=>qV s
 refine(List.perm_ext_iff_of_nodup (fd.gR n t) j).2 λv=>?_;rw[nw];constructor
 .rintro⟨X,_,d⟩;exact((fd.eS n).1 d).2
 intro d;refine⟨eV v,?_,(fd.eS n).2 ⟨a,d⟩⟩;obtain⟨⟨u,w⟩,q,rfl⟩:=fF.1 d;obtain⟨y,p,x,g,_⟩:=n.all u w q;obtain⟨o,r,f,_⟩:=n.eO _ _ _ _ g;rw[h.mem_iff];exact fF.2 ⟨o,r,pT f⟩
end facts
set_option maxRecDepth 20000 in
def OS(RT:x7 q B)(l:e a')(e4:c l<=B)(W8:B<=4000000:=by decide):ad q 32 [.k (.S (.aD 0))] [.Q (gd l)] (.k (.S (.q 1 2 (c l) (bf.fn l)))) [.Q (gd l),.q 74 2 (c l) (bf.fn l)]:=by
 refine ad.E func32 rfl λlU=>?_;refine g.aX c5 fj a3.nil [] 8 a M (g.ez (ι:={ac:oq // ∃ai eb,fd l ac ai eb}) 0 (λac=>fd l ac.1) a (λai eb ⟨r0,rb,vq,m5,n⟩=>⟨⟨⟨r0,rb,vq,m5⟩,ai,eb,n⟩,n⟩) ?_);rintro⟨ac,v0,W5,N⟩;refine g.jq 3 9 a λL=>?_;refine g.aX c5 fj a3.nil [] 100 a M (g.range (ml:=0) (a1:=ac.r0) (es:=ac.c') (u:=ac.dL) a a a a underlying68 (bQ.jN a a λbk eb n=>n.val) a (λai eb n=>n.cv) ?_);refine g.aX c5 fj a3.nil [] 100 a M ?_;show bX q _ (.loop _) _ _ _;refine bX.loop (bg:=dy×e an×e an×Array Nat) (λA=>lS ac.c' A.2.2.1 A.2.2.2/\A.2.1.Perm (A.2.2.1.flatMap ac.cY)) (λA=>[(0,.k (.S (.aD 0))),(2,aL (.M i 0 0 λ_=>[])),(12,.k (.S (.aD 2))),(3,ce (cT A.1 (c A.2.1)))]) (λA=>[.Q (fd l ac),.Q (gH 9 A.1 (A.2.1.map ca)),.Q (i5 ac.r0 ac.dL A.2.2.2)]) (λA=>c (jn ac.c')-c A.2.2.1) (L,[],[],#[]) ⟨lS.start _,by simp⟩ (et a xM) a ?_;rintro⟨b',pO,pre,eQ⟩ ⟨h,aq⟩;refine g.aW ?_;refine g.aX c5 fj a3.nil [] 100 a M (g.next (ml:=0) (im:=2) (a1:=ac.r0) (u:=ac.dL) (eQ:=eQ) (es:=ac.c') a a a a a a a a (λai eb n=>n.cv) N.dB (λak r=>⟨by rw[(fd.ei N ak r).1];rfl,(fd.ei N ak r).2⟩) λf=>?_);cases f with
 |over Ad=>
  refine g.aX c5 fj a3.nil [-14] 100 a Q (g.fi a a ?_);have j3:=h.over N.dB (fd.ei N) Ad;have o:pO.Perm (l.map (·.1)):=aq.trans (fd.iI N j3);have w:c pO=c l:=by rw[o.length_eq];simp
  obtain⟨iT,v,rQ,D⟩:=RT b' pO x (λA K=>by obtain⟨⟨U,cd⟩,hm,rfl⟩:=fF.1 (o.mem_iff.1 K);exact(N.len U cd hm).1);have P:iT=l.map (·.1):=by
   refine List.Perm.eq_of_pairwise (le:=λt j=>aK j t=m) (λt j _ _ F cm=>?_) rQ ?_ (v.trans o)
   .rcases qW t j with n|n|n
    .rw[n]at cm;cases cm
    .exact n
    rw[n]at F;cases F
   rw[qG];exact N.c0.imp λn=>qT n
  subst P;refine g.aX c5 fj a3.nil [] 100 a M (g.aF D [1] a (g.aX c5 fj a3.nil [] 2 a M (g.ie 3 1 (O:=(l.map (·.1)).map ca) (p:=c pO) (bD.fn (l.map (·.1))) a a (by simp[w]) (λbi f A K=>?_) ?_)))
  .simp only[lW]at K;cases bL:l[f]? with
   |none=>rw[bL]at K;cases K
   |some cd=>
    rw[bL]at K;simp at K;subst K;refine⟨.R cd.1,by simp[dO.fn,hH,bD,bL],Rd.R a ?_⟩;obtain⟨U,eM⟩:=cd;have:=(N.len U eM (bZ bL)).1;simp;omega
  refine g.ez (ι:=Unit) 0 (λ_=>gd l) a (λai eb n=>⟨(),ac.r0,ac.c',ac.dL,ac.eM,n⟩) λ_=>?_;refine g.aX c5 fj a3.nil [] 3 a M (g.bH 6 74 2 a a ?_);refine g.aX c5 fj a3.nil [] 100 a M (g.b1 (λf=>f<=c l) (λf:Nat=>[(0,.k (.S (.aD 0))),(23,bD.M (l.map (·.1))),(24,S (c l)),(25,S f),(6,.k (.S (.q 3 2 (c (l.take f)) (bf.fn (l.take f)))))]) (λf=>[.Q (gd l),.t,.Q (i5 ac.r0 ac.dL (pu.over Ad).bs),.q 74 2 (c (l.take f)) (bf.fn (l.take f))]) (λf=>c l-f) 0 a ?_ a ?_ x ?_)
  .simp[b4,w]
  .simp[b4]
  intro f bL;by_cases n:f<c l
  .have dt:hi l (b1 l f)=b (ga l f):=RG n (λy cU=>by
    have:=k0.1 N.c0 y f x n cU;rw[ji x,ji n]at this
    exact qV this) a
   have C:(l.map (·.1)).getD f bD.N=b1 l f:=by simp[b1,av,n]
   have bR:l.take (f+1)=l.take f++[(b1 l f,ga l f)]:=by rw[qM,bu n,ji n];rfl
   refine g.aX c5 fj a3.nil [26] 100 a ?_ ?_
   .simp[-av,n]
   refine g.aF (OQ l ((l.map (·.1)).getD f bD.N)) [0] a ?_;rw[C,dt];refine g.aX c5 fj a3.nil [] 100 a ?_ (g.bI (f+1) a ?_ a ?_ ?_ ?_)
   .simp[a9,show nT.bytes=32 from a];omega
   .exact Lk
   .exact Lk
   .omega
   omega
  have:f=c l:=x;subst this;refine g.aX c5 fj a3.nil [-26] 100 a Q (g.a_ a a ?_);refine g.aX c5 fj a3.nil [] 100 a M ?_;simp only[eB];refine g.aQ [0,3] a Q ?_;intro y cU;have:y=0:=by simpa using cU
  subst this;rfl
 |S ak r FU=>
  refine g.aX c5 fj a3.nil [14] 100 a Q ?_;obtain⟨k1,Xe⟩:=(fd.ei N) ak r;obtain⟨ax,Xg⟩:=h.step N.dB (fd.ei N) r FU;obtain⟨X,a1,es,u,Mp,x9,G⟩:=N.dr ak r;refine g.entry (ml:=0) (im:=2) (a1:=ac.r0) (u:=ac.dL) (eQ:=eQ) (es:=ac.c') (ak:=ak) (cd:=.C [.S .any,.S (.v (.map (b a1)))]) a a a a a a a (λai eb n=>n.cv) N.dB r (λd=>⟨[ak.key,ak.val],a,by rw[k1];rfl,by rw[x9];exact Rd.val a,M⟩) ?_;refine g.aX c5 fj a3.nil [] 100 a M (g.aF (PB a1) [] a ?_);have a2:iS ak=X:=pT Mp;have s:ac.cY X=jn es:=by simp[oq.cY,G]
  have ag:c pO+c (jn es)<=4000000:=by have F:=fd.iL N ax.1;have cm:=aq.length_eq;simp only[u4,dZ,a2,oy,List.flatMap_nil,iJ,s]at F cm;omega
  refine g.cp (Oc (H:=fd l ac) (a1:=a1) (es:=es) (u:=u) (λai eb n=>(n.cI _ _ _ _ G).1) (N.cI _ _ _ _ G).2.1 (fd.g4 N G) (λak r=>by have:=fd.ja N G ak r;omega) b' pO ag) [1,0] a a a a Q a a a bN a bN a λbe=>?_;refine g.aX c5 fj a3.nil [] 100 a M ⟨(be.1.1,pO++be.1.2,pre++[iS ak],eQ.push ak.born),⟨ax,?_⟩,?_,et a ?_,a⟩
  .simp only[u4,a2,oy,List.flatMap_nil,iJ,s];exact aq.append be.2
  .have:=tJ ax.1 ax.2.1;simp at this⊢;omega
  simp[b4]
def OR(t:x7 q B)(l:e a')(u:c l<=B)(j:B<=4000000:=by decide):ad q 32 [.k (.S (.aD 0))] [.Q (gd l)] (bf.M l) [.Q (gd l)]:=
 (OS t l u j).iu (a6:=[.Q (gd l)]) (bw:=[.q 74 2 (c l) (bf.fn l)]) a Q a a a
end
section
open Go.Sort (pdq bitsLen insertionSort)
variable {q:al R}
def yz:∀a d:an,aK a d=decide (a<d)
 |a,[]=>by rw[s4];simp
 |[],d::e=>by rw[vn];simp
 |a::f,d::e=>by rw[qU,yz f e,pG];simp[List.cons_lt_cons_iff]
abbrev oc(a:e an):e an:=a.mergeSort λd f=>decide (d<=f)
def US(h:e an):(oc h).Pairwise λa d=>aK d a=m:=by
 have:=List.pairwise_mergeSort (le:=λl n:an=>decide (l<=n)) (λa d o f g=>?_) (λa d=>?_) h
 .refine this.imp λ{a d} j=>?_;rw[yz];simpa[List.not_lt]using j
 .simp only[bM]at f g⊢;exact List.le_trans f g
 simp only[hP,bM];exact List.le_total a d
def UL(a:e an)(g:c a<=12):insertionSort h0 a.toArray 0 (c a)=(oc a).toArray:=by
 have f:h0=Go.Sort.ltStr:=by funext d j;exact yz d j
 rw[f,<-Go.Sort.pdq_small (limit:=bitsLen (c a)) (wb:=i) (wp:=i) x];have n:=Go.Sort.sortStr a;unfold Go.Sort.sort at n;rw[List.size_toArray]at n;exact qL so
def QR(d:e an)(f:c d<=12):ad q 83 [q' (c d)] [nE (c d) d.toArray] (.C []) [nE (c d) (oc d).toArray]:=by
 have key:ad q 135 [q' (c d),S 0,S (c d),S (bitsLen (c d))] [nE (c d) d.toArray] (.C []) [nE (c d) (oc d).toArray]:=by
  refine ad.E func135 rfl λh=>?_;refine cq a M (g.aN 1 (λ_:Unit=>True) (λ_=>[(0,q' (c d)),(1,S 0),(2,S (c d)),(3,S (bitsLen (c d))),(8,bm i),(9,bm i)]) (λ_=>[nE (c d) d.toArray]) (λ_=>0) () a Q a Q a M ?_);intro _ _;refine b6 [23] a ?_ ?_
  .simp only[V,a9,bM];exact e_
  have:=Pr (q:=q) (c d) d.toArray 0 (c d) Q (bE _) x x;rw[UL d f]at this;refine g.aF this [0] a (cq a M (g.aV (b3.mk [0] a M a a a z4)))
 refine ad.E func83 rfl λh=>?_;exact cq a sm (g.aF (vT (c d) x) [] a (cq a M (g.aF key [0] a Jf)))
theorem r3{a:an}(e:Rd bi ai (.R a)):ai=ca a:=by
 cases e with
 |R d g=>
  rename_i f;obtain⟨⟨h⟩⟩:=f;subst d;rfl
def Ro(j:Mem)(f:e an)(l:∀o∈f,c o<=9223372036854775807):ez j 1 (c f) (mW f.toArray) (f.map ca):=by
 refine⟨by simp,λ_ _=>rfl,λh d n p g=>?_⟩
 match n,g with
 |0,g=>
  simp only[mW,j6,eA]at g;subst g;refine⟨ca f[h],by simp[d],?_⟩;rw[show f.toArray[h]! = f[h] by simp[d]];exact Rd.R a (l _ (qI d))
def Rp{d:e an}(h:ez bi 1 (c d) (mW d.toArray) z):z=d.map ca:=by
 have l:=h.len;refine pD (by simpa using l) λf n N=>?_;have a:f<c d:=B0;obtain⟨p,j,o⟩:=h.rd f a 0 (.R d.toArray[f]!) rfl;have g:z[f]?=b p:=by simpa using j
 rw[bu n,eA]at g;rw[g,r3 o];simp[a]
def Ft:∀a,a<0->([]:e Nat)[a]?=b a:=λa d=>by omega
def QP(H:I->(Nat->Option Obj)->Prop):ad q 83 [aL (.M m 1 0 λ_=>[])] [.Q H] (.C []) [.Q H]:=by
 have k1:ad q 160 [aL (.M m 1 0 λ_=>[]),S 0,S 0] [] (.C []) []:=by refine ad.E func160 rfl λd=>?_;refine a8 a kU (g.aN 0 (λ_:Unit=>True) (λ_=>[(0,aL (.M m 1 0 λ_=>[])),(1,S 0),(2,S 0),(6,S 1)]) (λ_=>[]) (λ_=>0) () a Q a Q a M ?_);intro _ _;refine a_ [-12] a Q (g.aA ?_);exact b3.b_ [] a M a a a Ft
 have e:ad q 135 [aL (.M m 1 0 λ_=>[]),S 0,S 0,S (bitsLen 0)] [] (.C []) []:=by refine ad.E func135 rfl λd=>?_;refine cq a M (g.aN 0 (λ_:Unit=>True) (λ_=>[(0,aL (.M m 1 0 λ_=>[])),(1,S 0),(2,S 0),(3,S (bitsLen 0)),(8,bm i),(9,bm i)]) (λ_=>[]) (λ_=>0) () a Q a Q a M ?_);intro _ _;refine b6 [23] a kU (g.aF k1 [] a (cq a M (g.aV (b3.mk [] a M a a a Ft))))
 refine ad.E func83 rfl λd=>?_;exact cq a kU (g.aF (vT 0 x) [] a (cq a M (g.aF e [] a Jf)))
def UK:x7 q 12:=by
 intro e d C t;refine⟨oc d,List.mergeSort_perm _ _,US d,?_⟩;have f:c (oc d)=c d:=List.length_mergeSort _;by_cases r:d=[]
 .subst r;rw[show oc []=[] by simp[oc]];have h:=QP (q:=q) (gH 9 e []);refine⟨h.1,λn z a bc w g l=>h.2 n z ?_ bc w g l⟩;obtain⟨L,s⟩:∃L,n.m[0]?=b L:=LI;obtain⟨o,p,_⟩:=bc.box 0 _ L rfl s
  match z,a with
  |[D],a=>
   have B:=Rd.aM a.1;refine⟨?_,M⟩;rw[B];cases e with
   |nil A=>exact .M 0 0 (λ_ _=>E) (bE _) x Q x x x x
   |row j cap=>exact .M 0 0 (λ_ _=>E) Q p.2.2.2.1 Q Q Q Q Q
 cases e with
 |nil A=>
  refine⟨⟨_,func83,rfl,rfl⟩,λn z a bc w g l=>?_⟩;obtain⟨L,s⟩:∃L,n.m[0]?=b L:=LI;obtain⟨o,p,_⟩:=bc.box 0 _ L rfl s;have:=p.2.2.1;simp at this;exact absurd this r
 |row j cap=>
  have h:=QR (q:=q) d C;rw[<-f]at h;have y:=λv=>Ro v d t;rw[<-f]at y;have:=ad.jx (j:=j) (cap:=cap) h func83 rfl (O:=d.map ca) (ix:=(oc d).map ca) (by simp[f]) (by rw[f];exact yk.2 r) y (λv z u=>Rp u) (λF t=>by obtain⟨I,_,rfl⟩:=fF.1 t;rfl) Q;rw[f]at this;exact this
end
section
variable {q:al R}
def Ou(d:e a')(h:c d<=4000000):ad q 33 [bf.M d] [] (bf.M d) []:=by
 refine ad.E func33 rfl λj=>?_;refine a8 a M (g.eT bv a a a a a a λf t=>?_);cases f with
 |true=>
  exact xE
 |false=>
  exact a8 a ⟨show(0+c d)*32<=_ by omega,.inl a⟩ xA
def F9:∀(d:e a')(a:a'),c (fw d a)<=c d+1
 |[],a=>by simp[fw]
 |g::f,a=>by
  have:=F9 f a;simp only[fw];split
  .simp
  split
  .simp
  simp;exact this
def Fj(h:e a')(d l:an)(p:c d<=9223372036854775807)(r:c l<=9223372036854775807):ad q 8 [bf.M h,bC d,bC l] [] (lG (e9 h d l).1 (e9 h d l).2) []:=by
 refine ad.E func8 rfl λv=>?_;have u:=A2 d;have f:a3 q ((29,vr)::Eu):=.cons Im Nn;unfold e9;cases j:dm h with
 |false=>
  rw[bp Q];refine g.aX c5 fj f [13,18,22] 100 a ?_ (g.an a ?_)
  .simp[bf.aa,bf.ad,lI,j]
  simp
 |true=>
 have s:=r9 j;cases N:fi d with
 |false=>
  rw[bp Q];refine g.aX c5 fj f [-13,18,22] 100 a ?_ (g.an a ?_)
  .simp[bf.aa,bf.ad,lI,j,u,N]
  simp
 |true=>
 cases ac:fa l with
 |false=>
  rw[bp Q];refine g.aX c5 fj f [-13,-18,22] 100 a KD (g.an a ?_);simp
 |true=>
 rw[bF ⟨rfl,rfl,rfl⟩];refine g.aX c5 fj f [-13,-18,-22] 100 a KD (g.aF (OY h (Wu j)) [] a ?_);rw[Mq (BO j),Hq (d,l) (BO j)];refine g.aX c5 fj f [] 100 a M (g.fS (ER h d l p r) [0] a a a a a a a a a a a ?_);have t:=F9 h (d,l);generalize fw h (d,l)=o at *;refine g.aX c5 fj f [] 100 a M (g.fS (OR (UK (q:=q)) o x) [0] a a a a a a a a a a a ?_);cases n:dm o with
 |false=>
  refine g.aX c5 fj f [33] 100 a ?_ ?_
  .simp[bf.aa,bf.ad,lI,n]
  refine g.aF (Ou h x) [] a (g.aX c5 fj f [] 100 a M (g.an a ?_));simp
 |true=>
  refine g.aX c5 fj f [-33] 100 a ?_ (g.an a ?_)
  .simp[bf.aa,bf.ad,lI,n]
  simp
end
section
variable {q:al R}[q.bT]
abbrev ng:Y:=.Q (cg 61 2 (.nil k) 0 [])
abbrev mt(d:I)(a:bP):Y:=.cells 27 [.c (.val d),.c (jX a.2.1),.c (iZ a.2.2)]
abbrev zy(d:I)(a:bP):s:=.k (.agg [.c (.val d),.c (jX a.2.1),.c (iZ a.2.2)])
abbrev sW:Y:=.cells 27 [.any,.any,.any]
abbrev jr(d:I)(a:bP):Y:=.Q (ea (pv d a.1))
def EB(g:Nat)(d:Nat->Int)(f:Int)(h a:bP)(p:Option I)(l n o:Bool):e Y:=
 match p with
 |none=>match l,n with
  |false,m=>[dD g d f,fp,f_ h,ng]
  |true,m=>[dD g d (f+1),fp,f_ h,ng]
  |false,i=>[dD g d f,fp,f_ h,ng,fp]
  |true,i=>[dD g d (f+1),fp,f_ h,ng,fp]
 |some j=>match l,n,o with
  |true,m,_=>[dD g d (f+1),fp,f_ h,jr j a]
  |true,i,m=>[dD g d (f+1),fp,f_ h,jr j a,fp]
  |true,i,i=>[dD g d (f+1),fp,f_ h,jr j a,mt j a]
  |false,m,_=>[dD g d f,fp,f_ h,jr j a]
  |false,i,_=>[dD g d f,fp,f_ h,jr j a,fp]
def WM(g:Int)(j a:bP)(l:e a')(f:Option I)(h:Nat):s:=
 [fg j,ba 0 0,S g,S (1+g),bf.M l,
  (match f with|none=>.any|some d=>.C [.agg [.c (.val d),.c (jX a.2.1),.c (iZ a.2.2)],.S (.c (.bool i))]),
  (match f with|none=>.any|some d=>.C [.agg [.c (.val d),.c (jX a.2.1),.c (iZ a.2.2)],.S (.c (.bool i))]),
  (match f with|none=>.any|some d=>zy d a),bm i,ba 4 0,.any,bm i].getD h .any
def EA(h:Nat)(f:Nat->Int)(g:Int)(d:I)(a:bP)(j l n:Bool):e Y:=
 match j,l,n with
 |false,m,_=>[dD h f g,fp,mt d a,jr d a]
 |true,m,_=>[dD h f (g+1),fp,mt d a,jr d a]
 |false,i,m=>[dD h f g,fp,mt d a,jr d a,fp]
 |true,i,m=>[dD h f (g+1),fp,mt d a,jr d a,fp]
 |false,i,i=>[dD h f g,fp,mt d a,jr d a,sW]
 |true,i,i=>[dD h f (g+1),fp,mt d a,jr d a,sW]
abbrev BG:s:=.C [.agg [.any,.any,.any],.S (.c (.bool m))]
def WL(a:Int)(h:I)(f:bP)(g:e a')(d:Nat):s:=[zy h f,ba 0 0,S a,S (1+a),bf.M g,BG,BG,.k (.agg [.any,.any,.any]),bm m,ba 4 0,.any,bm m].getD d .any
abbrev Mk(d:Nat):={a:bP×I×Nat // fC a.1/\d<=a.2.2/\a.2.2<=d+1000}
def fC.bN{d:bP}(f:fC d):∀a∈d.1,0<c a.2:=λa e=>(f.aR a e).len.1
def Rm:∀a,a<1->([0,3]:e Nat)[a]?=b a:=λa d=>by grind
def QG(f:bP)(a:Int)(g:e a')(d:fC f)(j:nm g)(h:fI 7 f g=i):bG (ι:=Nat->I) q 19 [S 7,fg f,S a,bf.M g] [] (λ_=>BG) (λ_=>[]):=
 (zN (q:=q) 7 f a g cz d.size d.num j d.hF d.bN h).le bN (λ_=>by simp)
set_option maxRecDepth 20000 in
def QV(f:Nat)(j:Nat->Int)(r:Bytes j)(o:Nat)(aG:o<=40000)(B:f<=1048576):
  bG (ι:=Mk o) q 37 [ba 0 0] [dD f j o] (λd=>zy d.1.2.1 d.1.1) (λd=>[dD f j d.1.2.2,jr d.1.2.1 d.1.1]):=by
 refine bG.c5 bv func37 rfl rfl rfl λaF=>?_;refine a_ [902] a M (g.fB 61 2 ?_);refine g.jI 3 2 0 2 (br.fn []) cz a a a λah=>?_;refine a8 a M (g.a4 (OV f j r o x B) [0] a bN ?_);rintro⟨⟨ag,k1⟩,ak,aA,H⟩;simp only at ak aA H;refine a8 a M (g.a4 (jg f j r k1 5 x B x) [0] a bN ?_);rintro⟨aM,aN,aP⟩;refine a8 a M (g.aN 4 (λd:bP×I×e a'×Nat×Nat=>fC d.1/\dm d.2.2.1=i/\d.2.2.2.1<=4/\o<=d.2.2.2.2/\d.2.2.2.2+100*d.2.2.2.1<=o+900) (λd=>f92 d.2.2.1 d.2.2.2.1) (λd=>[dD f j d.2.2.2.2,fp,mt d.2.1 d.1,jr d.2.1 d.1]) (λd=>d.2.2.2.1) (([],[],[]),ah,ag,aM.toNat,k1+1) a bx a qu a ⟨fC.nil,ak,by grind,by grind,by grind⟩ ?_);rintro⟨p,R,w,F,n⟩ ⟨C,P,ay,aj,aw⟩;simp only at C P ay aj aw;by_cases aH:0<F
 .have aK:=Hb f j n 2 x;have au:V [(n:Int)=(n:Int).toNat,j_ j=j_ (pQ (j_ j)),Bytes (pQ (j_ j)),(n:Int)<=4000000,f<=1048576,(1:Int)<=2,(2:Int)<=4000000]:=⟨rfl,rfl,r,by omega,B,by omega,(by decide:(2:Int)<=4000000)⟩
  have ai:V [a9 .i64 (1+kp f j n 2)]:=bH;have v:a3 q [(14,yE)]:=.cons Vb .nil;refine b6 [19,906] a bx ?_;apply g.i' (ι:={d:bP×I // fC d.1}) (λ_=>f92 w F) (λd=>[dD f j (n+1:Nat),fp,mt d.1.2 d.1.1,jr d.1.2 d.1.1,sW])
  .intro c8;cases G:fI 7 p w with
   |true=>
    have D:=QG (q:=q) p (1+kp f j n 2) w C (jw P) G;refine g.dP c5 (WL (kp f j n 2) R p w) (oS (EA f j n R p) 2 9 10) a a a a
     ⟨.cx,
     .cx,
     cW.iv a a a a (λu N=>by cases u<;>cases N<;>exact h1 (bK:=[]) bv v (aO:=b _) a au),
     .ht bv v (cO:=by exact ai),
     .cx,
     cW.fs a a a (λt u N=>by cases t<;>cases u<;>cases N<;>exactλp t aE ab j af X az aL E r ad Z=>d'.e8 D a a a (lP.agg 1 0 3 a a (ea.eP a λ_ Y=>Y)) a Q a bN bN p t aE ab j af X az aL E r ad λ_=>Z),
     .cx,
     .cx,
     .cx,
     cW.iw a a a a a (λt=>by cases t<;>exact h1 (bK:=[]) bv v (aO:=b _) a M),
     cW.ix a a a a a (λt=>by cases t<;>exact h1 (bK:=[]) bv v (aO:=b _) a M),
     .cx,M⟩ ?_
    intro s z;show g q _ _ _ _ _ (EA f j n R p (s 2) (s 9) (s 10));rw[z 2 cz,z 9 cz,z 10 cz];exact b6 [909] a M (c8 ⟨(p,R),C⟩ _ _ a Q)
   |false=>
    have L:=C.fw (dd:=1+kp f j n 2) P x G;have D:=E7 (q:=q) 7 p (1+kp f j n 2) w cz C.size C.num (jw P) C.hF C.bN G;generalize c_ 7 p (1+kp f j n 2) w=h at *;refine g.eA 3 2 0 (T:=61) (o:=2) (oK:=kO p.1) cz a a a (λ_ Y=>Y) ?_;refine g.iK c5 (WM (kp f j n 2) p h w) (lT (EB f j n p h) 2 9 10) (lO I 5) k a a a a a
     ⟨.gm,
     .gm,
     eR.pre a a a a a (λu=>by cases u<;>exact h1 (bK:=[]) bv v (aO:=b _) a au),
     .hx bv v ai,
     .gm,
     eR.iE a a a a a (λy d=>by
      match d with
      |0=>exact .inr (.inr rfl)
      |1=>exact .inr (.inr rfl)
      |2=>exact .inr (.inr rfl)
      |3=>exact .inr (.inr rfl)
      |4=>exact .inr (.inr rfl)
      |5=>grind
      |6=>exact .inr (.inl rfl)
      |7=>exact .inr (.inl rfl)
      |8=>exact .inr (.inr rfl)
      |9=>exact .inr (.inr rfl)
      |10=>exact .inr (.inr rfl)
      |11=>exact .inr (.inr rfl)
      |d+12=>exact .inr (.inr rfl)) (λu=>by cases u<;>exact d'.cp D [3] rfl rfl rfl rfl Q rfl rfl rfl bN rfl bN),
     .fu,
     .fu,
     .fu,
     eR.iy a a a a (λaq t=>by cases aq<;>cases t<;>exact h1 (bK:=[]) bv v (aO:=b _) a M),
     eR.last a a a a a a (λl=>h1 (bK:=[]) bv v (aO:=b _) a M),
     .fu,M⟩ ?_
    intro aq s W z;have W:aq.isSome=i:=W.trans (z 5 cz);rcases aq with _|l
    .cases W
    show g q _ _ _ _ _ (EB f j n p h (b l) (s 2) (s 9) (s 10));rw[z 2 cz,z 9 cz,z 10 cz];refine b6 [909] a M (g.dF (c':=f92 w F) (aO:=[dD f j (n+1:Nat),fp,mt l h,jr l h,sW]) ?_ a ?_ a ?_)
    .exact c8 ⟨(h,l),L⟩ _ _ a Q
    .simp
    simp
  rintro⟨⟨h,l⟩,L⟩;refine cq a M (g.a4 (vU f j r (n+1) x B) [0] a bN ?_);rintro⟨U,aJ⟩;refine cq a M (g.a4 (Fb f j r (n+1+1+1) x B) [0] a bN ?_);rintro⟨⟨A,K⟩,ae,aC,ax⟩;simp only at ae aC ax;refine cq a M (g.aF (Fh w U A) [] a ?_);have aS:=Ww (w:=w) (U:=U) (A:=A);obtain⟨t2,S⟩:∃t2,t2=if(e9 w U A).2=i then(e9 w U A).1 else w:=⟨_,rfl⟩
  have aB:dm t2=i:=J;apply g.b5 (f92 t2 F) [dD f j K,fp,mt l h,jr l h,sW]
  .intro c8;cases al:(e9 w U A).2 with
   |true=>
    rw[al,bF a]at S;rw[<-S];exact KP
   |false=>
    rw[al,bp Q]at S;rw[S]at c8;exact KP
  clear S;refine cq a M (g.a4 (jg f j r K 3 x B x) [0] a bN ?_);rintro⟨aQ,aR,w1⟩;by_cases an:aQ=0
  .refine b6 [46] a (by simp[an]) (g.a4 (vU f j r (K+1) x B) [0] a bN ?_);rintro⟨O,ar⟩;have ao:=r9 aB;refine cq a M (g.aF (EQ t2 O x) [] a (cq a pk (g.av (h,l,jL t2 O,F-1,K+1+1+1) a bx Q ?_ ?_)))
   .grind [NL]
   grind
  refine b6 [-46] a (by simp[an,a9];omega) (g.av (h,l,t2,F-1,K+1) a bx Q J ?_);grind
 refine b6 [-19] a bx (g.aA ?_);refine cq a M (g.cc ⟨(p,R,n),C,aj,by grind⟩ [0,3] ?_ Rm);simp
end
end R1
def bG.die{I:al P}{K:ar}{args:e s}{n C:Nat}{J:Nat->e D}{l:nl}{r:ι->Nat->e D}{T:ι->Nat}(N:bG I K args [.A n C p J] (λ_=>dR 0 l) (λB=>[.A n C (T B) (r B)])):ad I K args [.A n C p J] (dR 0 l) [.t]:=
 ⟨N.1,λU z A x S q w=>N.2 U z A x S q λB t O j y f h d=>w t O j y (by
  obtain⟨F,g,_,_⟩:ck _ _ _ (.ak 0 l):=f;exact(⟨F,g,by simp,λ_ _ _ _ W=>by grind⟩:ck [.t] j O (.ak 0 l))) h.dG
  ⟨d.size,d.aG,d.mem,d.ba,d.bp,λE Q L ao v=>by
   obtain⟨R,o,g,u,V⟩:=d.box E Q L ao v;cases E with
   |zero=>simp at ao;subst ao;exact⟨.t,o,a,u,M⟩
   |succ E=>grind,d.os,d.tape,d.output,d.own⟩⟩
namespace R1
variable {q:al R}
def ES(d:nn):ad q 112 [zu d] [] (bm (hj d)) []:=by
 refine ad.E func112 rfl λj=>?_;have e:a3 q []:=.nil;unfold hj;by_cases f:d.1=1
 .by_cases k_:1<=d.2
  .exact a4 e [6,11,16] a bx (g.an a dX)
  exact a4 e [6,11,-16] a bx (g.an a (by simp[k_]))
 by_cases h:d.1=2
 .by_cases k_:1<=d.2
  .exact a4 e [-6,11,16] a bx (g.an a dX)
  exact a4 e [-6,11,-16] a bx (g.an a (by simp[k_]))
 exact a4 e [-6,-11,-16] a bx (g.an a bx)
def PS(d:nn):ad q 111 [zu d] [] (bm (!hj d)) []:=by refine ad.E func111 rfl λf=>?_;have e:a3 q [(112,df qB (λd=>bm (hj d)) λ_=>[])]:=.cons (.a3 λd _=>ES d) .nil;exact cu e a M (g.an a)
def Sw(a:e nn):hZ a=(decide (c a<=9)&&!a.any λd=>!hj d):=by
 have:(aI (c a)).all (λf=>hj (a.getD f (0,0)))=!a.any λd=>!hj d:=by rw[pG,g0,iG,List.any_eq_false];grind[List.mem_iff_getElem]
 rw[hZ,this,Bool.and_comm]
def PT(d:e nn):ad q 58 [bV.M d] [] (bm (hZ d)) []:=by
 refine ad.E func58 rfl λl=>?_;have h:=O6 (q:=q) d 111 (λn=>!hj n) λj _=>PS j;have f:a3 q [(110,k' [bV.M d,aL (.fn (.func 111) [] [])] (bm (d.any λn=>!hj n)))]:=.cons (nh h) .nil;rw[Sw];by_cases n:c d<=9
 .exact a4 f [6] a ⟨a,gf x⟩ (g.an a hc)
 exact a4 f [-6] a cb (g.an a bx)
def Iq:bI q 58 ta:=.a3 λa _=>PT a
def Qe(e:bU)(n:c e.2<=4000000):ad q 85 [l9 e] [] (cx.M (e.2.map (·.1))) []:=by
 refine ad.E func85 rfl λo=>?_;refine a_ [902] a M (g.bH 3 3 1 a a ?_);refine a8 a M (g.aN 2 (λd=>d<=c e.2) (λd:Nat=>[(1,ba 0 0),(3,.k (.S (.q 1 1 d (cx.fn ((e.2.take d).map (·.1)))))),(7,bS.M e.2),(8,S (c e.2)),(9,S d)]) (λd=>[y1 e,.q 3 1 d (cx.fn ((e.2.take d).map (·.1)))]) (λd=>c e.2-d) 0 a Q a Q a x ?_);intro d l;by_cases h:d<c e.2
 .have j:e.2.getD (d:Int).toNat bS.N=eF e d:=J;have t:(e.2.take (d+1)).map (·.1)=(e.2.take d).map (·.1)++[(eF e d).1]:=lK;have f:c ((e.2.take d).map (·.1))=d:=J;have ak:=cx.aZ ((e.2.take d).map (·.1)) (eF e d).1;rw[f]at ak;refine a_ [10] a ?_ (g.av (d+1) a ?_ ?_ h x)
  .simp only[V,a9,show fh.bytes=8 from a];grind
  .exact Je
  exact Je
 obtain rfl:d=c e.2:=x;rw[eB];refine a_ [-10] a Q (g.aA ?_);exact sj
abbrev DP:bB:=df (jD bS) (λa=>cx.M (a.2.map (·.1))) λa=>[c a.2<=4000000]
def V5:bI q 85 DP:=.a3 λd a=>Qe d a
def SP(a:e bU)(d:Nat):c (b9 (a.take d))<=c (b9 a):=by have:b9 a=b9 (a.take d)++b9 (a.drop d):=LO;grind
abbrev T7(a:e Int):s:=dR 0 (.M (c a) 1 0 (c a))
def E0(d:e bU)(t:∀n∈d,c n.2<=4000000)(A:c (b9 d)<=4000000):ad q 35 [br.M d] [] (T7 (b9 d)) [k7 (c (b9 d)) (b9 d)]:=by
 refine ad.E func35 rfl λu=>?_;have y:=u.M 0 a;have h:a3 q [(85,DP)]:=.cons V5 .nil;refine a4 h [902] a M (g.hh 3 3 1 (cx.fn []) a ?_);refine cu h a M (g.aN 1 (λf=>f<=c d) (λf:Nat=>[(3,dR 0 (.M (c (b9 (d.take f))) 1 0 (c (b9 (d.take f))))),(6,br.M d),(7,S (c d)),(8,S f)]) (λf=>[k7 (c (b9 (d.take f))) (b9 (d.take f))]) (λf=>c d-f) 0 a B1 a (by simp[b4,b9]) a x ?_);intro f s;by_cases l:f<c d
 .have X:d.getD (f:Int).toNat br.N=d.getD f (0,[]):=J;have j:=Gz l;have o:=SP d (f+1);have z:=t _ (rp (N:=(0,[])) l);generalize d.getD f (0,[])=n at *;rw[j]at o;generalize b9 (d.take f)=p at *;have r:=cx.iM p (n.2.map (·.1)) _ a;simp only[dZ,iI]at o r;refine a4 h [9] a ?_ (g.av (f+1) a ?_ ?_ l x)
  .simp only[V,X,a9,bS.aa,bS.ad,iI,show fh.bytes=8 from a];grind
  .rw[j];simp only[V.W,V,X,bS.aa,dZ,iI,bn,bl];and_intros<;>first|exact b4.same|rfl|omega
  rw[j];simp only[V.W,V,X,bS.aa,dZ,iI,bn,bl];grind
 obtain rfl:f=c d:=x;rw[eB];refine a4 h [-9] a Q (g.aA ?_);refine cu h a M (g.aQ [0] a ?_ (λw v=>absurd v Q));simp
def E2(d:e bU)(f:∀h∈d,c h.2<=4000000)(g:c (b9 d)<=4000000):ad q 35 [br.M d] [] (cx.M (b9 d)) []:=
 ad.fU (a6:=[]) (T:=3) (o:=1) (p:=c (b9 d)) (es:=cx.fn (b9 d)) (E0 d f g) a Q a (bE _)
end R1
namespace R1
section
variable {q:al R}
def E9(d:bP):ad q 34 [fg d] [] (fg d) []:=by refine ad.c5 func34 rfl rfl rfl λf=>?_;refine a8 a Q ?_;refine g.freeze 2 1 a a a ?_;exact g.gp bv [] a Q a a a (λh e=>absurd e Q)
abbrev y6:bB:=df pM (λa=>fg a) λ_=>[]
def Iw:bI q 34 y6:=.a3 λa _=>E9 a
abbrev xe(a:bP):Y:=.cells 78 [.c (.M m 2 (c a.1) (br.fn a.1)),.c (.M m 2 (c a.2.1) (cG.fn a.2.1)),.c (.M m 2 (c a.2.2) (bV.fn a.2.2))]
structure mK(d:bP):Prop extends Mi d where
 cw:∀U∈d.1,c U.2<=4000000
 dv:c (b9 d.1)<=4000000
def rN(d:Int)(a:bP):Bool:=(aI (c a.1)).all (mu d a.1)&&decide (c a.1<=20)&&decide (b9 a.1).Nodup
def Qh(t:Int)(d:bP)(cI:cB t=i)(o:mK d):ad q 56 [fg d,S t] [] (bm (rN t d)) []:=by
 refine ad.E func56 rfl λX=>?_;have s:=o.jz;have R:=o.cw;have T:=E2 (q:=q) d.1 o.cw o.dv;have p:a3 q [(106,y2)]:=.cons Ir .nil;refine cu p a M ?_;unfold rN;refine g.aN 1 (λf=>f<=c d.1/\∀B,B<f->mu t d.1 B=i) (λf:Nat=>[(1,S t),(2,ba 0 0),(9,br.M d.1),(10,S (c d.1)),(11,S f)]) (λ_=>[xe d]) (λf=>c d.1-f) 0 a Q a Q a ⟨by omega,by omega⟩ ?_;rintro f ⟨O,v⟩;by_cases n:f<c d.1
 .have bk:d.1.getD f br.N=d.1.getD f (0,[]):=rfl;have w:d.1.getD (f-1) br.N=d.1.getD (f-1) (0,[]):=rfl;have y:mu t d.1 f=(ho t (d.1.getD f (0,[]))&&k6 (·.1) (0,[]) d.1 f):=rfl;have I:=qO (ac:=λu:bU=>u.1) (N:=(0,[])) (l:=d.1) (f:=f);have j:=R _ (rp (N:=(0,[])) n);generalize d.1.getD f (0,[])=u at *;generalize d.1.getD (f-1) (0,[])=z at *;cases r:ho t u with
  |false=>
   rw[r,sP]at y;refine a4 p [12,20,35] a ?_ (g.aV (b3.zero a ?_))
   .simp[-av,bk,cI,j,r,bS.aa,bS.ad];omega
   rw[mQ n y];simp
  |true=>
   rw[r,gL]at y;by_cases K:f=0
   .subst K;refine a4 p [12,-20,-23,-35] a ?_ (g.av 1 a Q Q ⟨n,l2 v bH⟩ x);simp[-av,bk,cI,j,r,bS.aa,bS.ad,a9];omega
   have I:=I K;by_cases D:z.1<u.1
   .refine a4 p [12,-20,23,-33,-35] a ?_ (g.av (f+1) a Q Q ⟨n,l2 v J⟩ x);exact KL
   refine a4 p [12,-20,23,33,35] a KL (g.aV (b3.zero a ?_));exact ph
 obtain rfl:f=c d.1:=x;rw[g0.2 v,gL];refine a4 p [-12] a Q (g.aA ?_);refine cu p a M (g.aF (E0 d.1 o.cw o.dv) [] a (cu p a M (g.aF (QQ (b9 d.1) o.dv) [1] a ?_)));have W:=Ns (b9 d.1);have F:=(Oz (q:=q) (lC (b9 d.1)) (by rw[xh];exact o.dv)).die;rw[xh]at F;have U:=Nr (lC (b9 d.1));rw[xh]at U;have C:=o.dv;generalize hR (lC (b9 d.1))=e at *;generalize lC (b9 d.1)=A at *;have nG:a3 q [(108,qZ [dw (c (b9 d.1))] [k7 (c (b9 d.1)) A] (dR 0 (.M (c (b9 d.1)) 1 0 (c e))) [.t]),(35,k' [br.M d.1] (cx.M (b9 d.1)))]:=.cons (um F) (.cons (nh T) .nil);refine a4 nG [909] a M ?_;by_cases Z:c d.1<=20
 rotate_left
 .refine a4 nG [-46] a cb (g.an a ?_);exact bx
 have E:(c d.1:Int)<=20:=x;generalize Y:b9 d.1=h at *;refine g.eu (ι:=Unit) c5 6 (λf=>match aD f 5 with|true=>i|false=>match aa f 8 with|true=>i|false=>aa f 9) (λf=>[ba 0 0,br.M d.1,S (c d.1),bm (decide ((c d.1:Int)<=20)),bm i,dR 1 (.M (c h) 1 0 (c h)),.any,.any,ba 0 0,br.M d.1].getD f .any)
  (λ_ f=>[.any,.any,.any,.any,.any,.any,dR 1 (.M (c h) 1 0 (c e)),S (c e),.any,.any,cx.M h,S (c h),bm ((c e:Int)==c h),bm ((c e:Int)==c h),bm ((c e:Int)==c h)].getD f .any) (λ_=>[xe d,.t]) a a a a a a ?_ ?_ ?_ ?_
 .exact⟨.x,.x,.x,.x,.eval bv nG (bK:=[46]) a (gf E),.x,M,M,.x,.x,M,M,M,M,M,M⟩
 .intro _;exact⟨.x,.x,.x,.x,.eval bv nG (bK:=[46]) a (gf E),.x,M,.x,.x,.x,.eval bv nG (bK:=[]) a a,.x,.x,.x,.x,M⟩
 .exact .dY (h1 bv nG (bK:=[]) (aO:=b [xe d,.t]) a ⟨a,a⟩)
 intro _;refine cu nG a M (g.an a ?_);have:((c e:Int)==c h)=decide h.Nodup:=J;exact bH
abbrev VC(a:e (Int×Int))(d:Bool):s:=.C [.S (.c (.M m 2 (c a) (bV.fn a))),.S (.c (.bool d))]
def PR(d:e (Int×Int))(f:Int×Int)(l:hZ d=i)(n:hj f=i)(r:c d<=9):ad q 68 [bV.M d,nK f.1 f.2] [] (VC (if c d=9 then d else d++[f]) (decide (c d≠9))) []:=by
 refine ad.E func68 rfl λp=>?_;have h:a3 q [(58,ta),(112,df qB (λj=>bm (hj j)) λ_=>[])]:=.cons Iq (.cons (.a3 λj _=>ES j) .nil);refine a4 h [-9,-14] a ?_ ?_
 .simp only[V,bV.aa,l,n,k3,bn,bl];first|exact bV.ad _|(and_intros<;>first|rfl|exact bV.ad _)
 refine g.aF (EN d x) [] a ?_;by_cases t:c d=9
 .exact a4 h [19] a mx JA
 refine a4 h [-19] a ?_ ?_
 .simp only[V,show tB.bytes=16 from a,gn,bn,bl];exact sh
 have o:=bV.aZ d f;refine g.dF (c':=[(4,dR 1 (.M (c d+1) 2 0 (c d+1))),(5,bm i)]) (aO:=[.cells 104 [.c (.int .i64 f.1),.c (.int .i64 f.2)],.A 104 2 (c d+1) (bV.fn (d++[f]))]) ?_ a qu a bH;exact JA
def PD(d:e bU)(h:c d<=4000000):ad q 115 [br.M d] [] (S (if c d=0 then 0 else(d.getD (c d-1) (0,[])).1)) []:=by
 refine ad.E func115 rfl λj=>?_;by_cases n:c d=0
 .rw[bF n];exact a_ [5] a hc (g.an a)
 have f:d.getD ((c d:Int)-1).toNat br.N=d.getD (c d-1) (0,[]):=by rw[show((c d:Int)-1).toNat=c d-1 by omega];rfl
 rw[bp n];refine a_ [-5] a ?_ (g.an a dX);simp only[V,f,a9,gn,bn,bl];exact e_
def jO(a:Int)(f:e (Int×Int)):Int:=f.foldl (λa d=>max a (d.2+1)) a
def FP(f:e (Int×Int)):∀a d:Int,jO (max a d) f=max a (jO d f):=by
 induction f with
 |nil=>intro a d;rfl
 |cons h g j=>
  intro a d;show jO (max (max a d) (h.2+1)) g=max a (jO (max d (h.2+1)) g);grind
def RL{a2:Int}{a:e (Int×Int)}(d:f<c a):jO a2 (a.take (f+1))=max (jO a2 (a.take f)) ((a.getD f (0,0)).2+1):=by unfold jO;grind[ni]
def jv(a:bP):Int:=if c a.2.1=0 then 1 else max 1 ((a.2.1.getD (c a.2.1-1) (0,[])).1+1)
def UX(a:bP):jO (jv a) a.2.2=dG a:=by
 unfold jv dG;have d:jO 1 a.2.2=ln a.2.2:=rfl;split
 .exact d
 rw[show max 1 ((a.2.1.getD (c a.2.1-1) (0,[])).1+1)=max ((a.2.1.getD (c a.2.1-1) (0,[])).1+1) 1 by omega,FP,d];omega
def P9(d:bP)(j:iB d)(f:i6 d):ad q 62 [fg d] [] (.C [.S (.c (.int .i64 (cV d))),.S (.c (.int .i64 (dG d)))]) []:=by
 refine ad.E func62 rfl λF=>?_;have v:=j.aR;have I:=j.bs;have C:=j.bF;have K:1<=jv d/\jv d<=4000001:=by
  unfold jv;split
  .omega
  have:=f.cL _ (kF (show c d.2.1-1<c d.2.1 by omega) (0,[]));omega
 apply g.b5 [(1,ba 0 0),(4,S (jv d))] [f_ d]
 .intro c8;by_cases h:c d.2.1=0
  .exact b6 [-12,905] a dX (c8 _ _ a (by simp[jv,h]))
  have E:=f.cL _ (kF (show c d.2.1-1<c d.2.1 by omega) (0,[]));have t:d.2.1.getD ((c d.2.1:Int)-1).toNat cG.N=d.2.1.getD (c d.2.1-1) (0,[]):=LD;refine b6 [12] a uC ?_;rw[t];refine g.aI (wu (jv d) a a a (by unfold jv;grind) bH) a a ?_;exact b6 [905] a M sg
 refine cq a M (g.aN 1 (λe=>e<=c d.2.2) (λe:Nat=>[(1,ba 0 0),(4,S (jO (jv d) (d.2.2.take e))),(24,bV.M d.2.2),(25,S (c d.2.2)),(26,S e)]) (λe=>[f_ d]) (λe=>c d.2.2-e) 0 a ?_ a ?_ a x ?_)
 .simp[jO]
 .simp
 intro e r;have n:∀e,1<=jO (jv d) (d.2.2.take e)/\jO (jv d) (d.2.2.take e)<=4000001:=λe=>by have o:=rr (d.2.2.take e) λB D=>f.bF B (gE D);have z:jO 1 (d.2.2.take e)=ln (d.2.2.take e):=rfl;rw[show jv d=max (jv d) 1 by omega,FP,z];omega
 have o:=n e;have N:=n (e+1);by_cases h:e<c d.2.2
 .have E:=f.bF _ (kF h (0,0));have t:d.2.2.getD (e:Int).toNat bV.N=d.2.2.getD e (0,0):=J;have y:=RL (a2:=jv d) h;refine b6 [27] a uC ?_;rw[t];refine g.aI (wu (jO (jv d) (d.2.2.take (e+1))) a a a y.symm mw) a a ?_;refine cq a bH (g.av (e+1) a Q ?_ h x);simp
 obtain rfl:e=c d.2.2:=x;rw[eB,UX]at o⊢;have l:cV d=(if c d.1=0 then 0 else(d.1.getD (c d.1-1) (0,[])).1)+1:=by unfold cV;split<;>rfl
 have p:-4000000<=cV d-1/\cV d-1<=4000000:=by
  rw[l];split
  .omega
  have:=f.aR _ (kF (show c d.1-1<c d.1 by omega) (0,[]));omega
 have s:=PD (q:=q) d.1 v;have u:=E9 (q:=q) d;rw[l]at p⊢;generalize(if c d.1=0 then 0 else(d.1.getD (c d.1-1) (0,[])).1)=w at *;have A:a3 q [(34,k' [fg d] (fg d)),(115,k' [br.M d.1] (S w))]:=.cons (nh u) (.cons (nh s) .nil);refine b6 [-27] a Q (g.aA ?_);refine c0 A a ?_ (g.an a);exact bH
abbrev o'(a:e an):D:=.M m 1 (c a) (bD.fn a)
def On(d:e an):ad q 63 [bD.M d,S 4] [] (aL (.fn (.func 116) [] [.U [o' d],.U [.int .i64 4]])) []:=by refine ad.E func63 rfl λf=>?_;refine is [] 6 a M ?_;refine g.freeze 2 0 a a a ?_;refine g.freeze 3 1 a a a ?_;exact a_ [-6] a Q (g.an a qu)
def fY(d:e an)(a:Nat):e an:=(d.drop (4*a)).take 4
def Om(f:e an)(T:c f<=4000000){o:Nat}{N0:Nat}{ht:bd}{t wt:Loop}(j:Nat)(R:j<=(c f+3) / 4)(h:Nat->e Y)(y:e Y)(W:∀d,c (h d)=o)(I:∀d,jq (h d++[.loop N0 ht t])=i)(E:jq (y++[.loop N0 ht wt])=i)(l:∀d,d<j->4*d<c f->i7 (ι:=Unit) q o [bD.M (fY f d)] (h d++[.loop N0 ht t]) i (λ_=>h (d+1)++[.loop N0 ht t]))(n:4*j<c f->i7 (ι:=Unit) q o [bD.M (fY f j)] (h j++[.loop N0 ht t]) m (λ_=>y++[.loop N0 ht wt])):
  bG (ι:=Unit) q 116 [.k (.S (.aD o)),aL (.U [o' f]),aL (.U [.int .i64 4])] (h 0++[.loop N0 ht t]) (λ_=>.C []) (λ_=>if 4*j<c f then y++[.loop N0 ht wt]else h j++[.loop N0 ht t]):=by
 refine bG.f' func116 rfl rfl rfl (g.aW ?_);refine a8 a M ?_;show bX q _ (.loop _) _ _ _;refine bX.loop (bg:=Nat) (λd=>d<=j) (λd=>[(0,.k (.S (.aD o))),(1,aL (.U [o' f])),(2,aL (.U [.int .i64 4])),(4,S (4*d:Nat))]) (λd=>h d++[.loop N0 ht t]) (λd=>j-d) 0 (jG _) ?_ a ?_
 .exact .cons a (et a Q)
 intro d B;refine g.aW ?_;by_cases r:4*d<c f
 .have X:V (ib (c f) (b ((4*d:Nat):Int)) k):=uG;have D:cE (c f) k-cE 0 (b ((4*d:Nat):Int))=c f-4*d:=bH;refine a_ [9,903] a bx ?_;let O:Nat->s:=λv=>([S 4,bD.M f,S (4*d:Nat),aL (.M m 1 (cE (c f) k-cE 0 (b ((4*d:Nat):Int))) (gR (cE 0 (b ((4*d:Nat):Int))) (bD.fn f))),S (cE (c f) k-cE 0 (b ((4*d:Nat):Int)):Nat),S (min 4 (c f-4*d):Nat),S (min 4 (c f-4*d):Nat)]:e s).getD v .any;refine g.dP c5 O (oS (λ_ _ _=>h d++[.loop N0 ht t]) 100 101 102) nk nk nk nk ?_ ?_
  .exact⟨.cx,
   .cx,
   .cx,
   cW.fs a a a (λ_ _ _=>a0.eval (bK:=[]) bv a3.nil a X),
   .cx,
   cW.fs a a a (λ_ _ _=>a0.aT (λ_ _ _ _=>jZ a) (ww _ a a a J mw)),
   .cx,M⟩
  intro s U;show g q _ _ _ _ _ (h d++[.loop N0 ht t]);have K:(((4*d:Nat):Int)+((min 4 (c f-4*d):Nat):Int))=((4*d+min 4 (c f-4*d):Nat):Int):=x;refine a8 a ?_ ?_
  .simp only[V,a9,bn,bl];omega
  refine g.aI (aR.jW bv a a a a (p:=c f) (es:=bD.fn f) (ew:=m) (λ_ _ a1=>b2 a1) a a a x x x x) a a ?_;have F:c (fY f d)=min 4 (c f-4*d):=by simp[fY]
  refine e1.le (c':=[(0,.k (.S (.aD o))),(19,.k (.S (.aD o))),(1,aL (.U [o' f])),(2,aL (.U [.int .i64 4])),(4,S (4*d:Nat)),(28,bD.M (fY f d))]) ?_ (.cons a (.cons a (et a ?_)))
  .have N:(h d++[Y.loop N0 ht t])[o]?=b (.loop N0 ht t):=J;rcases dJ d j with z|z
   .refine g.yield (l d z r) a a a (N0:=N0) (ht:=ht) (a1:=t) N a a λ_=>?_;exact a_ [-30] a (by simp only[V,a9,k3,bn,bl];omega) ⟨d+1,by omega,by omega,.cons a (et a bx),a⟩
   obtain rfl:d=j:=x;refine g.yield (n r) a a a (N0:=N0) (ht:=ht) (a1:=t) N a a λ_=>?_;exact a_ [30] a Q (g.ret ⟨(),.inl a,(bF r).symm,by grind,[],.C [],[],a,a,a,M⟩)
  simp only[V.W,V,bn,bl];have C:((4*d:Nat):Int).toNat=4*d:=x;have A:(((4*d:Nat):Int)+((min 4 (c f-4*d):Nat):Int)).toNat-((4*d:Nat):Int).toNat=c (fY f d):=J;refine⟨A,λv w=>?_⟩;rw[A]at w;rw[C];show bD.a1 (f.getD (4*d+v) bD.N)=bD.a1 ((fY f d).getD v bD.N);congr 1;simp only[fY,av];grind
 obtain rfl:d=j:=x;refine a_ [-9] a bx (g.fi a a ?_);exact⟨(),.inr a,(bp r).symm,by grind,[],.C [],[],a,a,a,M⟩
def kG(f:Int)(d:bP)(g:e an)(a:Nat):Bool:=(kM (cV d+a) f (fY g a)).2&&!(c d.1+a==20)
def lF(d:Nat->Bool):Nat->Nat->Nat
 |0,a=>a
 |e+1,a=>if d a=i then lF d e (a+1)else a
def BA(e:Nat->Bool):∀(d a:Nat),a<=lF e d a/\lF e d a<=a+d/\(∀f,a<=f->f<lF e d a->e f=i)/\(lF e d a<a+d->e (lF e d a)=m)
 |0,a=>⟨bE _,bE _,λf g h=>absurd g (by simp only[lF]at h;omega),λj=>absurd j (by simp[lF])⟩
 |d+1,a=>by obtain⟨g,h,n,l⟩:=BA e d (a+1);rw[lF];grind
def ir(d:Int)(h:bP)(f:e an)(g:Nat):e bU:=(aI g).map λa:Nat=>(kM (cV h+a) d (fY f a)).1
theorem Az(d:Int)(g:bP)(f:e an)(a:Nat):c (ir d g f a)=a:=by simp[ir]
def SD(d:Int)(g:bP)(f:e an)(a:Nat):ir d g f (a+1)=ir d g f a++[(kM (cV g+(a:Nat)) d (fY f a)).1]:=by simp[ir,List.range_succ]
def G1{a:bP}(d:i6 a):-4000000<=cV a/\cV a<=4000001:=by
 unfold cV;split
 .omega
 rename_i e;have:=d.aR _ (Aa e (0,[]));omega
def n9(f:Int)(a:bP)(d:Int)(j:e a'):bP×Option an:=
 let g:=e6 f j (dV a.1);let h:=lF (kG f a g) ((c g+3) / 4) 0
 if h<(c g+3) / 4 then(([],[],[]),b [112,97,99,107,115])
 else if 20<dG a then(([],[],[]),b [115,110,97,112,115,104,111,116,115])
 else if c a.2.2=9 then(([],[],[]),b [104,101,97,100,115])
 else((a.1++ir f a g h,a.2.1++[f' (dG a) f j],a.2.2++[(d,dG a)]),k)
def N6:Option an->E1
 |none=>.S (.c .bk)
 |some a=>.S (.c (.bR 53 (.U [.R a])))
def Iz(a:bP×Option an):s:=.C [.agg [.c (kO a.1.1),.c (jX a.1.2.1),.c (iZ a.1.2.2)],N6 a.2]
abbrev U8(f:bP)(a:Int)(g:e a')(d:e an):bd:=[(2,S a),(3,bf.M g),(4,ba 2 0),(5,ba 3 0),(8,ba 4 0),(9,ba 5 0),(10,ba 9 0),(11,ba 10 0),(12,S (dG f)),(33,aL (.fn (.func 116) [] [.U [o' d],.U [.int .i64 4]]))]
abbrev ul(h g:ab×I)(l:Int)(d:bP)(j:D)(a:e bU)(f:Int):e Y:=gB h g++[.cells 27 [.c (kO d.1),.c (jX d.2.1),.c (iZ d.2.2)],.cells 3 [.c (.int .i64 l)],.cells 27 [eu,eu,eu],.cells 50 [.c j],
 .A 61 2 (c a) (br.fn a),.A 65 2 (c d.2.1) (cG.fn d.2.1),.t,.cells 27 [.ak 6 (.M (c a) 2 0 (c a)),.ak 7 (.M (c d.2.1) 2 0 (c d.2.1)),.c (iZ d.2.2)],.cells 3 [.c (.int .i64 f)]]
def Ii{p n:ab×I}{q:bP}{s r:D}{h d:e bU}{g a:Int}{t j:Loop}(f:Nat)(l:Y)(ao:(ul p n o q s h g++[.loop B F t])[f]?=b l):x1 12 (ul p n o q r d a++[.loop B F j]) f l:=by
 rcases f with _|_|_|_|_|_|_|_|_|_|_|_|f<;>first
  |(cases ao;exact .inl ⟨_,_,rfl,rfl⟩)
  |(cases ao;exact .inr (.inr (.inl ⟨_,_,_,_,rfl,rfl⟩)))
  |(cases ao;exact .inr (.inr (.inr ⟨by grind,by grind⟩)))
  |simp_all
def QH(v u:ab×I)(f:Int)(d:bP)(l:Int)(n:e a')(cI:cB f=i)(z:iB d)(dt:i6 d)(E:dm n=i)(P:c (dk d.1)<=100000)(G:jQ (dV d.1) (c (dV d.1))=i)(ae:hZ d.2.2=i)(aK:l=1∨l=2)(ak:1<=dG d):
  ad q 22 [fg d,S f,S l,bf.M n] (gB v u) (Iz (n9 f d l n)) (gB v u):=by
 obtain⟨T,r⟩:∃T,T=n9 f d l n:=⟨_,rfl⟩;rw[<-r];unfold n9 at r;simp only at r;refine(bG.iZ (ι:=Unit) (aO:=λ_=>gB v u) (res:=λ_=>Iz T) func22 rfl rfl rfl ?_).toad
 refine de.seq (bX.bn (g.aW ?_));refine a8 a M (de.seq (bX.bn (g.aW ?_)));refine a8 a M (g.aF (QX d z.aR z.df z.bs z.cy z.bF) [] a (a8 a M (de.seq (bX.bn (g.aW ?_)))));refine g.cE 8 a a a Q (by simp;exact⟨M,M⟩) (a8 a M (g.aF (P9 d z dt) [] a (a8 a M (de.seq (de.seq (bX.bn (g.aW ?_)))))));generalize ao:dV d.1=j at *;have ag:a3 q [(65,k' [br.M d.1] (bV.M j)),(63,k' [bD.M (e6 f n j),S 4] (aL (.fn (.func 116) [] [.U [o' (e6 f n j)],.U [.int .i64 4]])))]:=.cons (nh (ao▸Po d.1 z.aR P)) (.cons (nh (On _)) .nil);have aF:c j<=4000000:=by grind[F7]
 refine g.fT c5 [S f,bf.M n,ba 2 0,br.M d.1,bV.M j,bD.M (e6 f n j),aL (.fn (.func 116) [] [.U [o' (e6 f n j)],.U [.int .i64 4]])] 12 rfl rfl rfl rfl rfl ⟨a0.x,a0.x,a0.x,a0.x,
  a0.eval (bK:=[]) bv ag a a,a0.er (d'.eh (QK v u f n j cI E G aF).tocm [0,1] a a a a a a a bN a bN),a0.eval (bK:=[]) bv ag a a,M⟩ ?_
 refine a8 a M (de.block ?_);refine de.bq (U8 d l n (e6 f n j)) (ul v u f d .bk (d.1++ir f d (e6 f n j) 0) (cV d+(0:Nat))) a Q a ?_ ?_
 .simp[ir];exact⟨a,λaB _=>rfl⟩
 have ah:∀B∈e6 f n j,cp B=i:=(ob (jw E)).1;have aj:c (e6 f n j)<=4000000:=i_ (ob (jw E)).2 cz;generalize e6 f n j=h at *;obtain⟨ax,ay,N,aw⟩:=BA (kG f d h) ((c h+3) / 4) 0;have aJ:=z.aR;generalize X:lF (kG f d h) ((c h+3) / 4) 0=o at *;refine de.jM (oJ:=fm [.U [o' h],.U [.int .i64 4]]) (bQ.callee a)
  (Om (wt:=?Xf) h aj o x (λy=>ul v u f d .bk (d.1++ir f d h y) (cV d+(y:Nat))) (ul v u f d (.bR 53 (.U [.R [112,97,99,107,115]])) (d.1++ir f d h o) (cV d+(o:Nat))) (λy=>rfl) (λy=>rfl) a (λy O L=>?RS) λaH=>?RU) λaB=>?cI
 case RU=>
  have C:kG f d h o=m:=aw x;have U:=E3 (q:=q) v u (cV d+(o:Nat)) f (fY h o) LU cI (λB K=>ah B (pA (gE K))) (by simp[fY];omega);have ai:=Az f d h o;generalize ar:kM (cV d+(o:Nat)) f (fY h o)=t at *;refine i7.cb (bw:=λ_=>[.cells 61 [.c (.int .i64 t.1.1),.c (.M m 2 (c t.1.2) (bS.fn t.1.2))],.t]) (i7.intro (y:=b .ret) a a a a (g.aW ?_)) ?_ ?_
  .refine a8 a M ⟨a,a,g.aW ?_⟩;refine a8 a M (g.aF U [0,1] a ?_);have af:c (d.1++ir f d h o)=c d.1+o:=J;have F:t.2=i->c d.1+o=20:=λaz=>by simpa[kG,ar,az]using C
   cases s:t.2 with
   |false=>
    refine a_ [44,49,907] a (by simp[s]) (g.region ?_);refine is [] 3 a M (g.fe 52 13 a a a ?_);refine a8 a M (g.ret ?_);refine⟨a,a,(),jm a ?_⟩;simp only[V.W,V,bn,bl];and_intros<;>first|exact b4.same|exact b4.nil|rfl
   |true=>
    have:=F s;refine a_ [-44,49,907] a bH (g.region ?_);refine is [] 3 a M (g.fe 52 13 a a a ?_);refine a8 a M (g.ret ?_);refine⟨a,a,(),jm a ?_⟩;simp
  .exact λ_=>rfl
  exactλ_=>Ii
 case RS=>
  have aE:kG f d h y=i:=N y (jG _) O;have U:=E3 (q:=q) v u (cV d+(y:Nat)) f (fY h y) LU cI (λB K=>ah B (pA (gE K))) (by simp[fY];omega);have ai:=Az f d h y;have Y:=SD f d h y;obtain⟨au,aC⟩:(kM (cV d+(y:Nat)) f (fY h y)).2=i/\¬(c d.1)+y=20:=by simpa[kG]using aE
  generalize kM (cV d+(y:Nat)) f (fY h y)=t at *;have af:c (d.1++ir f d h y)=c d.1+y:=J;have al:d.1++ir f d h (y+1)=(d.1++ir f d h y)++[t.1]:=J;generalize d.1++ir f d h y=p at *;refine i7.cb (bw:=λ_=>[.cells 61 [.c (.int .i64 t.1.1),.c (.M m 2 (c t.1.2) (bS.fn t.1.2))]]) (i7.intro (y:=k) a a a a (g.aW ?_)) ?_ ?_
  .refine a8 a M ⟨a,a,g.aW ?_⟩;refine a8 a M (g.aF U [0,1] a ?_);have j3:=br.aZ p t.1;have aA:=G1 dt;refine a_ [-44,-49] a ?_ ?_
   .simp only[V,a9,au,show nS.bytes=32 from a,af,gn,e3,k3,bn,bl];omega
   refine⟨a,a,(),jm a ?_⟩;have aq:c (p++[t.1])=c p+1:=Q;have H:cV d+(y:Int)+1=cV d+((y+1:Nat):Int):=x;rw[al,aq,<-H];simp only[V.W,V,bn,bl];exact KO
  .exact λ_=>rfl
  exactλ_=>Ii
 case cI=>
  by_cases L:4*o<c h
  .rw[bF L];refine⟨_,a,by simp,.ret,a,?_⟩;rw[bF (show o<(c h+3) / 4 by omega)]at r;subst r;simp only[s6,uo];refine .freeze 8 4 a a a (.freeze 9 5 a a a (.of ⟨(),j4.cells bv [0,1] a ?_ a a a oP⟩));simp
  rw[bp L];refine⟨_,a,by simp,.normal,a,?_⟩;rw[bp (show¬o<(c h+3) / 4 by omega)]at r;show de q _ _ _ _ _;refine bX.bn (g.aW ?_);by_cases F:20<dG d
  .rw[bF F]at r;subst r;refine a_ [63,911] a bx (g.region ?_);refine is [] 3 a M (g.fe 66 13 a a a ?_);exact Kb
  rw[bp F]at r;have an:c d.2.2<=9:=by simp only[hZ,ct,bM]at ae;omega
  refine a_ [-63] a bx (g.aF (QL v u (dG d) f n ⟨ak,by omega⟩ cI E) [0,1] a ?_);have j3:=cG.aZ d.2.1 (f' (dG d) f n);have aG:=z.bs;refine a_ [914] a ?_ ?_
  .simp only[V,show we.bytes=32 from a,bn,bl];omega
  refine g.region ?_;refine a8 a M (g.aF (PR d.2.2 (l,dG d) ae (by simp only[hj,ct,bM];omega) an) [] a ?_);by_cases A:c d.2.2=9
  .rw[bF A]at r;subst r;refine a_ [91,916] a (by simp[A]) (g.region ?_);refine is [] 3 a M (g.fe 94 14 a a a ?_);exact Kb
  rw[bp A]at r;subst r;simp only[bp A];refine a_ [-91,918] a (by simp[A]) ?_;have ai:c (d.1++ir f d h o)=c d.1+o:=by grind[Az]
  generalize d.1++ir f d h o=p at *;generalize Z:d.2.1++[f' (dG d) f n]=w at *;have D:c w=c d.2.1+1:=J;generalize W:d.2.2++[(l,dG d)]=R at *;refine g.dF (c':=[(8,ba 4 0),(9,ba 5 0),(10,ba 9 0)]) (aO:=gB v u++[.cells 27 [.c (kO d.1),.c (jX d.2.1),.c (iZ d.2.2)],.cells 3 [.c (.int .i64 f)],.cells 27 [eu,eu,eu],.cells 50 [.c .bk],.A 61 2 (c p) (br.fn p),.A 65 2 (c w) (cG.fn w),.t,.cells 27 [.ak 6 (.M (c p) 2 0 (c p)),.ak 7 (.M (c w) 2 0 (c w)),.c (iZ R)],.cells 3 [.c (.int .i64 (cV d+(o:Nat)))],.t,.a2,.cells 65 [.c (.int .i64 (f' (dG d) f n).1),.c (.M m 2 (f' (dG d) f n).2.length (cP.fn (f' (dG d) f n).2))]]) ?_ a ?_ a ?_
  .refine g.cE 6 a a a Q Q (g.cE 7 a a a Q Q (a8 a M (g.ret (.freeze 8 4 a a a (.freeze 9 5 a a a (.of ⟨(),j4.cells bv [0,1] a ?_ a a a oP⟩))))));simp[kn]
  .simp
  simp only[V.W,V,D,bn,bl];exact KO
end
def tr{a g:Type}{ac:a->e g}{p:Nat}:∀{l:e a},(∀d∈l,c (ac d)<=p)->c (l.flatMap ac)<=p*c l
 |[],_=>by simp
 |d::l,f=>by have n:=f d iH;have o:=tr (l:=l) λj h=>f j (k2 _ h);grind[Nat.mul_succ]
def Wn{a:fE}(e:c a.2<=6/\∀d∈a.2,c d.2<=40):c (wA a.2)<=240:=by have:=tr (ac:=λd:kY=>d.2) (p:=40) e.2;unfold wA;omega
abbrev Nc:e (Nat×bB):=[(109,DV)]
def QO(j:Int)(d:bP)(y:mK d):ad (al.a8 R) 57 [fg d,S j] [] (bm ((aI (c d.2.1)).all (kr j d))) []:=by
 refine ad.E func57 rfl λE=>?_;have D:=y.jQ;have B:=y.hD;have e:a3 (al.a8 R) Nc:=.cons Wa .nil;refine cu e a M (g.aN 1 (λf=>f<=c d.2.1/\∀v,v<f->kr j d v=i) (λf:Nat=>[(1,S j),(2,ba 0 0),(10,cG.M d.2.1),(11,S (c d.2.1)),(12,S f)]) (λ_=>[xe d]) (λf=>c d.2.1-f) 0 a Q a Q a ⟨by omega,by omega⟩ ?_);rintro f ⟨z,q⟩;by_cases n:f<c d.2.1
 .have p:d.2.1.getD f cG.N=d.2.1.getD f (0,[]):=rfl;have r:d.2.1.getD (f-1) cG.N=d.2.1.getD (f-1) (0,[]):=rfl;have h:kr j d f=(decide (1<=(d.2.1.getD f (0,[])).1/\(d.2.1.getD f (0,[])).1<=20)&&k6 (·.1) (0,[]) d.2.1 f&&(e0 j (d.2.1.getD f (0,[])) d.1).isSome):=rfl;have A:=qO (ac:=λo:fE=>o.1) (N:=(0,[])) (l:=d.2.1) (f:=f);have X:=B _ (rp (N:=(0,[])) n);generalize d.2.1.getD f (0,[])=o at *;generalize d.2.1.getD (f-1) (0,[])=u at *;by_cases s:1<=o.1
  rotate_left
  .refine a4 e [13,20,25,40] a ?_ (g.aV (b3.zero a ?_))
   .simp[-av,p];omega
   exact ph
  by_cases t:o.1<=20
  rotate_left
  .refine a4 e [13,-20,25,40] a ?_ (g.aV (b3.zero a ?_))
   .simp[-av,p];omega
   exact ph
  rw[gf ⟨s,t⟩,gL]at h;by_cases w:f=0
  .subst w;rw[show k6 (·.1) (0,[]) d.2.1 0=i from a,gL]at h;cases a2:(e0 j o d.1).isSome with
   |false=>
    refine a4 e [13,-20,-25,-27,-40,50] a Jr (g.aV (b3.zero a ?_));rw[mQ n (h.trans a2)];simp
   |true=>
    refine a4 e [13,-20,-25,-27,-40,-50] a ?_ (g.av 1 a Q Q ⟨n,l2 q (h.trans a2)⟩ x);exact Jr
  rw[A w]at h;by_cases C:u.1<o.1
  rotate_left
  .refine a4 e [13,-20,-25,28,38,40] a ?_ (g.aV (b3.zero a ?_))
   .simp[-av,p,r,a9];omega
   exact ph
  rw[gf C,gL]at h;cases a2:(e0 j o d.1).isSome with
  |false=>
   refine a4 e [13,-20,-25,28,-38,-40,50] a K' (g.aV (b3.zero a ?_));rw[mQ n (h.trans a2)];simp
  |true=>
   refine a4 e [13,-20,-25,28,-38,-40,-50] a ?_ (g.av (f+1) a Q Q ⟨n,l2 q (h.trans a2)⟩ x);exact K'
 obtain rfl:f=c d.2.1:=x;rw[g0.2 q];refine a4 e [-13] a Q (g.aA ?_);exact cu e a M (g.an a)
def U5(d:Int)(a:bP):h5 d a=(cB d&&rN d a&&(aI (c a.2.1)).all (kr d a)&&hZ a.2.2):=by unfold h5 rN;cases(aI (c a.1)).all (mu d a.1)<;>cases decide (b9 a.1).Nodup<;>cases(aI (c a.2.1)).all (kr d a)<;>cases cB d<;>cases hZ a.2.2<;>cases decide (c a.1<=20)<;>rfl
abbrev M8:bB:=eK pM dc (λd a=>bm (rN a d)) λd a=>[cB a=i,mK d]
abbrev Na:bB:=eK pM dc (λa d=>bm ((aI (c a.2.1)).all (kr d a))) λa _=>[mK a]
def QY(e:Int)(d:bP)(ac:mK d):ad (al.a8 R) 20 [S e,fg d] [] (bm (h5 e d)) []:=by
 refine ad.E func20 rfl λl=>?_;have f:a3 (al.a8 R) [(34,y6),(55,df dc (λe=>bm (cB e)) λ_=>[]),(56,M8),(57,Na),(58,ta)]:=.cons Iw (.cons t55 (.cons (.bf λd e h=>Qh e d h.1 h.2) (.cons (.bf λd e h=>QO e d h) (.cons Iq .nil))));have j:=br.aa d.1;have u:=cG.aa d.2.1;have t:=bV.aa d.2.2;rw[U5];cases cI:cB e
 .exact a4 f [-10,-15,-20] a (by simp[cI,j,u,t,br.ad,cG.ad,bV.ad]) (g.an a)
 cases ak:rN e d
 .exact a4 f [10,-15,-20] a (by simp[cI,j,u,t,br.ad,cG.ad,bV.ad,ac,ak]) (g.an a)
 cases X:(aI (c d.2.1)).all (kr e d)
 .exact a4 f [10,15,-20] a K9 (g.an a)
 exact a4 f [10,15,20] a K9 (g.an a mx)
abbrev DY:bB:=eK dc pM (λd a=>bm (h5 d a)) λ_ a=>[mK a]
def Wd:bI (al.a8 R) 20 DY:=.bf λd e a=>QY d e a
abbrev ps(d a:ab×I):e Y:=gB d a++[x2]
def oY(f:Int)(d:bP)(a:Int)(g:e a'):bP×Bool:=
 if h5 f d=i/\(a=1∨a=2)/\dm g=i then(match(n9 f d a g).2 with|none=>((n9 f d a g).1,i)|some _=>(d,m))else(([],[],[]),m)
structure uT(o:Int)(d:bP):Prop where
 kj:cB o=i
 sp:c (dk d.1)<=100000
 kk:jQ (dV d.1) (c (dV d.1))=i
 ee:hZ d.2.2=i
 bs:1<=dG d
def oQ:∀a,a<3->([0,1,2]:e Nat)[a]?=b a:=cz
def Of{d:al R}(e:I):ad d 23 [aL .bk,mU e] [] (bm m) []:=by refine ad.E func23 rfl λf=>?_;refine a8 a M ?_;refine g.aI (AJ a underlying50 a a a) a a ?_;exact a_ [9] a Q (g.an a)
def Fa(u t:ab×I)(j:Int)(h:bP)(d:Int)(n:e a')(w:iB h)(a1:mK h)(N:i6 h)(G:a9 .i64 d)(X:h5 j h=i->uT j h):
  ad (al.a8 R) 6 [S j,fg h,S d,bf.M n] (ps u t) (BJ (oY j h d n).1 (oY j h d n).2) (ps u t):=by
 refine ad.cS bv func6 rfl rfl rfl λH=>?_;have o:a3 (al.a8 R) [(20,DY),(21,qY)]:=.cons Wd (.cons t21 .nil);by_cases f:h5 j h=i
 .by_cases l:d=1∨d=2
  .by_cases p:dm n=i
   .have v:oY j h d n=(match(n9 j h d n).2 with|none=>((n9 j h d n).1,i)|some _=>(h,m)):=bF ⟨f,l,p⟩;rw[v];obtain⟨D,F,s,K,C⟩:=X f;have E:=QH (q:=al.a8 R) u t j h d n D w N p F s K l C;apply g.b5 [(0,S j),(2,S d),(3,bf.M n),(5,ba 3 0),(8,ba 4 0)] (ps u t++[.cells 27 [.c (kO h.1),.c (jX h.2.1),.c (iZ h.2.2)],.cells 27 [eu,eu,eu]])
    .intro c8;rcases l with rfl|rfl
     .refine bs o [-17,-20,-25,-29,903] a Kd (c8 _ _ a ?_);simp
     refine bs o [-17,20,-25,-29,903] a Kd (c8 _ _ a ?_);simp
    have U:∀A:I,ad (al.a8 R) 23 [aL .bk,mU A] [] (bm m) []:=λA=>Of A;generalize n9 j h d n=T at *;obtain⟨x,Y⟩:=T;cases Y with
    |none=>
     have z:ad (al.a8 R) 22 [fg h,S j,S d,bf.M n] (gB u t) (.C [.agg [.c (kO x.1),.c (jX x.2.1),.c (iZ x.2.2)],.S (.c .bk)]) (gB u t):=E;refine c0 o a M (g.aF z [0,1] a (bs o [905] a M (g.hn 12 6 a a λB=>?_)));refine c0 o a M (g.gL 40 a ?_);exact g.aF (U _) [] a (bs o [-41] a Q uE)
    |some W=>
     have z:ad (al.a8 R) 22 [fg h,S j,S d,bf.M n] (gB u t) (.C [.agg [.c (kO x.1),.c (jX x.2.1),.c (iZ x.2.2)],.S (.c (.bR 53 (.U [.R W])))]) (gB u t):=E;refine c0 o a M (g.aF z [0,1] a (bs o [905] a M (g.hn 12 6 a a λB=>?_)));refine g.iB 11 a λO=>?_;refine c0 o a M (g.gL 40 a ?_);refine g.aF (Od O B) [2,6] a (bs o [41] a Q (g.aF (QW h w.aR w.df w.bs w.cy w.bF) [] a (w0 o [] 2 a M (g.ho ?_))));refine g.cE 7 a a a Q Q (g.cE 8 a a a Q Q (g.dD () [0,1,2] ?_ oQ));simp[kn]
   have v:oY j h d n=(([],[],[]),m):=bp λy=>p y.2.2;rw[v];have r:dm n=m:=J;rcases l with rfl|rfl
   .exact bs o [-17,-20,-25,29] a K8 uE
   exact bs o [-17,20,-25,29] a K8 uE
  have v:oY j h d n=(([],[],[]),m):=bp λy=>l y.2.1;rw[v];exact bs o [-17,20,25,29] a bH uE
 have v:oY j h d n=(([],[],[]),m):=bp λy=>f y.1;rw[v];refine bs o [17,25,29] a ?_ ?_
 .simp only[V,br.aa,cG.aa,bV.aa];and_intros<;>first|rfl|exact True.intro|exact br.ad _|exact cG.ad _|exact bV.ad _|exact a1|grind
 exact uE
def PW{e:al R}(d:bP)(f:∀l∈d.1,c l.2<=4000000)(h:c (b9 d.1)<=4000000):ad e 10 [fg d] [] (S (c (b9 d.1))) []:=by
 refine ad.E func10 rfl λn=>?_;have j:a3 e [(34,y6)]:=.cons Iw .nil;refine c0 j a ?_ ?_
 .simp[br.ad,cG.ad,bV.ad]
 simp only[br.aa,cG.aa,bV.aa];exact g.aF (E2 d.1 f h) [] a sj
abbrev DG:bB:=df pM (λa=>S (c (b9 a.1))) λa=>[∀d∈a.1,c d.2<=4000000,c (b9 a.1)<=4000000]
def VS{d:al R}:bI d 10 DG:=.a3 λe a=>PW e a.1 a.2
section
variable {q:al R}[q.bT]
def i1(f:Int)(d:bP)(a:Int)(g:e a'):bP×Bool:=
 if h5 f d=i/\(1<=a/\a<=2)/\dm g=i then(if fI f d g=i then d else c_ f d a g,!fI f d g)else(([],[],[]),m)
def Q0(o:Int)(f:bP)(d:Int)(h:e a')(t:iB f)(w:i6 f)(y:h5 o f=i->uT o f):
  ad q 5 [S o,fg f,S d,bf.M h] [] (BJ (i1 o f d h).1 (i1 o f d h).2) []:=by
 refine ad.cS bv func5 rfl rfl rfl λC=>?_;have p:a3 q [(16,DZ),(17,oH),(18,s_)]:=.cons We (.cons qm (.cons BE .nil));by_cases j:h5 o f=i
 .by_cases u:1<=d/\d<=2
  .by_cases N:dm h=i
   .have l:i1 o f d h=(if fI o f h=i then f else c_ o f d h,!fI o f h):=bF ⟨j,u,N⟩;rw[l];obtain⟨x,v,E,I,F⟩:=y j;have s:∀U∈f.1,0<c U.2:=λU B=>((ql.1 j).cw U B).len.1;cases r:fI o f h with
    |true=>
     refine bs p [-14,-19,-23] a KR (g.a4 (zN o f d h x t w (jw N) v s r) [] a bN λ_=>?_);exact cq a M uB
    |false=>
     refine g.fB 61 2 ?_;refine bs p [-14,-19,-23] a KR (g.a4 (E7 o f d h x t w (jw N) v s r) [0] a bN λD=>?_);refine cq a M (g.eA 0 2 0 (T:=61) (o:=2) (oK:=kO (c_ o f d h).1) cz a a a (λ_ n=>n) ?_);exact uB
   have l:i1 o f d h=(([],[],[]),m):=bp λn=>N n.2.2;rw[l];have z:dm h=m:=J;refine bs p [-14,-19,23] a ?_ ?_
   .simp only[V,br.aa,cG.aa,bV.aa,bf.aa,j,lI,z,u,l0];and_intros<;>first|rfl|exact True.intro|exact br.ad _|exact cG.ad _|exact bV.ad _|exact bf.ad _|exact t.cy|exact t.aR|exact t.bs
   exact uB
  have l:i1 o f d h=(([],[],[]),m):=bp λn=>u n.2.1;rw[l];refine bs p [-14,19,23] a ?_ ?_
  .simp only[V,br.aa,cG.aa,bV.aa,j,u,lX];exact Kj
  exact uB
 have l:i1 o f d h=(([],[],[]),m):=bp λn=>j n.1;rw[l];have A:h5 o f=m:=J;refine bs p [14,19,23] a ?_ ?_
 .simp only[V,br.aa,cG.aa,bV.aa,A];exact Kj
 exact uB
end
def GD{g:Int}{h:e cJ}:∀(a d:e an),d.Nodup->(a.foldl (eP g h) d).Nodup
 |[],d,f=>f
 |j::a,d,f=>by rw[hx];refine GD a _ ?_;unfold eP;grind
def xg(a:Int)(f:e a')(d:e cJ):(e6 a f d).Nodup:=GD _ _ List.nodup_nil
theorem A8{a:e bq}{f d:bq}:d∈eo a f↔d=f∨d∈a:=by
 induction a with
 |nil=>simp[eo]
 |cons h j g=>simp only[eo];split<;>simp[g,or_left_comm,or_assoc]
def TE{d:e bq}{g:bq}(j:d.Pairwise λa f=>a.1<f.1)(h:∀l∈d,l.1≠g.1):(eo d g).Pairwise λa f=>a.1<f.1:=by
 induction d with
 |nil=>simp[eo]
 |cons a r n=>
  obtain⟨q,p⟩:=ia.1 j;have o:=h a iH;simp only[eo];grind[List.pairwise_cons,A8]
def AE:∀(f g:e bq),g.Pairwise (λa d=>a.1<d.1)->f.Pairwise (λa d=>a.1≠d.1)->(∀a∈f,∀d∈g,d.1≠a.1)->(f.foldl eo g).Pairwise λa d=>a.1<d.1
 |[],_,h,_,_=>h
 |a::f,g,h,j,l=>by obtain⟨d1,d2⟩:=ia.1 j;refine AE f _ (TE h (l a iH)) d2 λp o d n=>?_;grind[A8]
theorem wx(d:Int)(a:e an):eH d a=(a.map (fV d)).foldl eo []:=by unfold eH;rw[List.foldl_map];rfl
theorem AG{a:e an}(d:cB o=i)(f:∀p∈a,cp p=i)(h:a.Nodup):(a.map (fV o)).Pairwise λq r=>q.1≠r.1:=by rw[qG];refine List.Pairwise.imp_of_mem (λ{t j} l n u g=>u ?_) h;exact wz d (f t l) (f j n) g
theorem G0{d:Int}{a:e an}(f:cB o=i)(j:∀g∈a,cp g=i)(t:a.Nodup)(u:c a<=4):rL d o a=jR d o a:=by
 show(d,kQ (a.map (fV o)))=(d,eH o a)
 grind[TD,AG,wx]
theorem AV{f:Int}{d:e an}(g:cB o=i)(j:∀q∈d,cp q=i)(l:d.Nodup)(v:1<=c d)(s:c d<=4):ho o (jR f o d)=decide (1<=f/\f<=99):=by
 have u:c (eH o d)=c d:=rG o d;rw[pG,wL,bM];constructor
 .exact λh=>h.b0
 intro h;refine⟨h,g,by show 1<=c (eH o d)/\_;rw[show(jR f o d).2=eH o d from a];omega,λr n=>?_,?_⟩
 .obtain⟨p,t,rfl⟩:=SG (show r∈eH o d from n);have:=Th (j p t);simp[right,this]
 show (eH o d).Pairwise _;rw[wx];exact AE _ _ List.Pairwise.nil (AG g j l) Q
def wM(g:Int):∀(h:Nat) (a:Int)(d:e an),c d<=h->e5 g h a d=(aI ((c d+3) / 4)).map λf:Nat=>jR (a+f) g (fY d f)
 |0,a,d,n=>by have:c d=0:=x;exact bH
 |h+1,a,d,n=>by
  simp only[e5];by_cases j:0<c d
  .rw[bF j,wM g h (a+1) (d.drop 4) J];have l:(c d+3) / 4=(c (d.drop 4)+3) / 4+1:=J;rw[l,uZ,oB,sQ];congr 1
   .simp[fY]
   refine pB λf _=>?_;show jR (a+1+(f:Nat)) g (((d.drop 4).drop (4*f)).take 4)=jR (a+((f+1:Nat):Int)) g ((d.drop (4*(f+1))).take 4);grind[List.drop_drop]
  grind
def zc{a:e an}(g:∀d∈a,cp d=i)(f:a.Nodup)(j:y<(c a+3) / 4):(∀d∈fY a y,cp d=i)/\(fY a y).Nodup/\1<=c (fY a y)/\c (fY a y)<=4:=
 ⟨λd h=>g d (pA (gE h)),(f.sublist (List.drop_sublist _ _)).sublist (List.take_sublist _ _),by simp[fY];omega,by simp[fY];omega⟩
def FJ{d:bP}{a:e an}(q:cB o=i)(g:∀r∈a,cp r=i)(f:a.Nodup)(h:y<(c a+3) / 4):kG o d a y=(decide (1<=cV d+(y:Int)/\cV d+(y:Int)<=99)&&!(c d.1+y==20)):=by obtain⟨j,l,n,p⟩:=zc g f h;unfold kG kM;grind[G0,AV]
def SE{n:bP}{a:e an}(d:cB o=i)(r:∀v∈a,cp v=i)(q:a.Nodup)(u:∀f,f<(c a+3) / 4->kG o n a f=i):ir o n a ((c a+3) / 4)=e5 o (c a) (cV n) a:=by
 rw[wM o _ _ _ (bE _)];refine pB λf g=>?_;have g:=pC.1 g;obtain⟨h,j,p,l⟩:=zc r q g;have t:=u f g;have s:ho o (jR (cV n+(f:Int)) o (fY a f))=i:=by rw[AV d h j p l];rw[FJ d r q g]at t;grind
 unfold kM;rw[G0 d h j l,bF s]
def iC.fr{f:Int}{a:bP}(e:iC f a):1<=cV a/\cV a<=100:=by
 unfold R1.cV;split
 .omega
 rename_i d;have:=(e.cw _ (Aa d (0,[]))).b0;omega
def F3(o:Int)(a:bP)(d:Int)(g:e a'):oY o a d g=i1 o a d g:=by
 unfold oY i1;by_cases j:h5 o a=i/\(d=1∨d=2)/\dm g=i
 .rw[bF j,bF ⟨j.1,by omega,j.2.2⟩];have h:=ql.1 j.1;have s:=h.fr;have O:c a.2.2<=9:=by have:=h.ee;simp only[hZ,ct,bM]at this;omega
  have M:=h.len;have A:=(ob (o:=o) (l:=dV a.1) (jw j.2.2)).1;have v:=xg o g (dV a.1);have u:c (jo o a g)=(c (e6 o g (dV a.1))+3) / 4:=by unfold jo;rw[wM _ _ _ _ (bE _)];simp
  have E:jo o a g=e5 o (c (e6 o g (dV a.1))) (cV a) (e6 o g (dV a.1)):=rfl;unfold n9;simp only;generalize e6 o g (dV a.1)=l at *;obtain⟨D,J,C,I⟩:=BA (kG o a l) ((c l+3) / 4) 0;generalize lF (kG o a l) ((c l+3) / 4) 0=q at *;have F:∀f,f<(c l+3) / 4->kG o a l f=(decide (1<=cV a+(f:Int)/\cV a+(f:Int)<=99)&&!(c a.1+f==20)):=λf p=>FJ h.key A v p;by_cases r:q<(c l+3) / 4
  .rw[bF r];have y:=I x;rw[F q r]at y;have n:fI o a g=i:=by simp only[fI,hP,bM,u];simp only[x',d6,ya,gZ]at y;omega
   grind
  rw[bp r];obtain rfl:q=(c l+3) / 4:=x;have t:∀f,f<(c l+3) / 4->1<=cV a+(f:Int)/\cV a+(f:Int)<=99/\c a.1+f≠20:=λf p=>by grind
  have N:c a.1+(c l+3) / 4<=20:=by refine Nat.le_of_not_lt λK=>?_;exact(t (20-c a.1) x).2.2 x
  have Q:cV a+(((c l+3) / 4:Nat):Int)-1<=99:=by
   rcases mP ((c l+3) / 4)with B|B
   .grind
   have:=(t ((c l+3) / 4-1) x).2.1;omega
  by_cases z:20<dG a
  .rw[bF z];have n:fI o a g=i:=LW;grind
  rw[bp z];by_cases w:c a.2.2=9
  .rw[bF w];have n:fI o a g=i:=LW;grind
  rw[bp w];have n:fI o a g=m:=by simp only[fI,qE,d6,u];omega
  rw[n];simp only[c_,E,SE h.key A v λf p=>C f (jG _) p,l1];rfl
 grind
theorem Hs{a:e cJ}{g d:cJ}(f:d∈dW a g):d=g∨d∈a:=by
 induction a with
 |nil=>simpa[dW]using f
 |cons h l j=>
  simp only[dW]at f;grind
def TI{f:e cJ}{l:cJ}(j:f.Pairwise λa d=>a.1<d.1):(dW f l).Pairwise λa d=>a.1<d.1:=by
 induction f with
 |nil=>simp[dW]
 |cons a p g=>
  obtain⟨o,h⟩:=ia.1 j;simp only[dW];split
  .rename_i u;refine ia.2 ⟨λq n=>?_,g h⟩;grind[Hs]
  grind[List.pairwise_cons]
def z_:∀(f a:e cJ),(∀d∈f,fr d=i)->(∀d∈a,fr d=i)->a.Pairwise (λa g=>a.1<g.1)->(∀d∈f.foldl dW a,fr d=i)/\(f.foldl dW a).Pairwise λa g=>a.1<g.1
 |[],a,_,j,h=>⟨j,h⟩
 |d::f,a,o,j,h=>z_ f (dW a d) (λn l=>o n (k2 _ l)) (λn l=>by grind[Hs]) (TI h)
theorem SZ{a:e cJ}(h:∀n∈a,fr n=i)(o:a.Pairwise λf g=>f.1<g.1):jQ a (c a)=i:=by
 refine g0.2 λl j=>?_;rw[ct];refine⟨h _ J,?_⟩;rcases mP l with d|d
 .simp[d]
 rw[hP];exact Ca
def Sc(a:e bU):jQ (dV a) (c (dV a))=i:=by
 unfold dV;split
 .rename_i d;obtain⟨f,g⟩:=z_ (dk a) [] (aX.1 d) Q List.Pairwise.nil;grind[SZ]
 rfl
def UQ{a:e bU}(d:∀n∈a,c n.2<=4):c (dk a)<=4*c a:=by
 induction a with
 |nil=>simp[dk]
 |cons j p g=>
  have f:=g λl h=>d l (k2 _ h);have o:=d j iH;simp only[dk,oy,dZ,iI,fR]at f⊢;omega
def iC.hE{e:Int}{a:bP}(g:iC e a)(d:i6 a):1<=dG a:=by have f:=rr a.2.2 d.bF;unfold R1.dG;split<;>omega
def iC.fw{d:bP}(a:iC o d)(f:i6 d):uT o d:=by refine⟨a.key,?_,Sc _,a.ee,a.hE f⟩;have:=UQ λg e=>(a.cw g e).len.2;have:=a.len;omega
structure L8(be:bP×Int×e a'):Prop where
 ew:iB be.1
 hD:mK be.1
 g2:i6 be.1
 fK:1<=be.2.1/\be.2.1<=3
 ef:c (oE be.1.2.1)<=4800
abbrev L6:={a:bP×Int×e a' // L8 a}
abbrev Nz(a:bP×Int×e a'):s:=.C [.S (.c (.int .i64 7)),.agg [.c (kO a.1.1),.c (jX a.1.2.1),.c (iZ a.1.2.2)],.S (.c (.int .i64 a.2.1)),.S (.c (.M m 2 (c a.2.2) (bf.fn a.2.2)))]
def L9(d:Nat)(a:Nat->Int):Prop:=bG (ι:=L6) (al.a8 R) 4 [aL (.M m 1 d (j_ a))] [] (λe=>Nz e.1) (λ_=>[])
def UM{d:bP}{a:Int}{f:e a'}(g:h5 o d=i)(h:1<=a/\a<=2)(j:dm f=i):i1 o d a f=(if fI o d f=i then d else c_ o d a f,!fI o d f):=bF ⟨g,h,j⟩
def uU(a:fE):Prop:=c a.2<=6/\∀d∈a.2,c d.2<=4000000
theorem uU.of{a:Int}{h:e a'}(f:dm h=i):uU (f' a o h):=by have j:=r9 f;refine⟨by simpa[f']using j,λn d=>?_⟩;simp only[f',fF]at d;obtain⟨g,l,rfl⟩:=d;have:=((jw f).ed g l).2;have:=qf g.2;simp only[iV,iI];omega
def Bu{d:bP}{dd:Int}{w:e a'}(g:iB d):iB (i1 o d dd w).1:=by
 unfold i1;split
 .rename_i h;have f:=ql.1 h.1;show iB (if fI o d w=i then d else c_ o d dd w);split
  .exact g
  rename_i p;have p:fI o d w=m:=J;simp only[fI,qE,d6]at p;have u:uU (f' (dG d) o w):=uU.of h.2.2;have s:=(ob (o:=o) (l:=dV d.1) (jw h.2.2)).1;have y:=C1 1 f.gq λn j=>(f.bs n j).1;have r:=f.ee;simp only[hZ,ct,bM]at r;refine⟨by simp only[c_,dZ];omega,λq t=>?_,by simp only[c_,dZ,iE];omega,λn j=>?_,by simp only[c_,dZ,iE];omega⟩
  .simp only[c_]at t;rcases fu.1 t with t|t
   .exact g.df q t
   obtain⟨v,a,_,_,_,x,_,rfl⟩:=AZ o _ _ _ s q t;have:c (eH o a)=c a:=rG o a;show(eH o a).length<=_;omega
  simp only[c_]at j;rcases fu.1 j with j|j
  .exact g.cy n j
  rw[eN]at j;subst j;exact⟨by have:=u.1;omega,u.2⟩
 exact⟨by simp,by simp,by simp,by simp[oa],by simp⟩
def GC{g:Int}{h:e cJ}:∀(d f:e an)(a:an),a∈d.foldl (eP g h) f↔a∈f∨(a∈d/\hV h (dF g a)=0)
 |[],f,a=>by simp
 |p::d,f,a=>by
  rw[hx,GC d];unfold eP;split
  .rename_i j;simp only[ct,gZ]at j;grind
  rename_i j;simp only[ct,gZ,iG]at j;by_cases o:a=p
  .subst o;by_cases l:hV h (dF g a)=0
   .have:f.contains a=i:=by
     cases n:f.contains a with
     |true=>rfl
     |false=>exact absurd ⟨l,n⟩ j
    have:a∈f:=by simpa using this
    grind
   grind
  grind
def ui{f:e a'}{d:e cJ}{a:an}:a∈e6 o f d↔(∃g∈f,a∈cc g.2)/\hV d (dF o a)=0:=by unfold e6;rw[GC];simp
def TJ{g:e cJ}{f:cJ}{h:Int}:(∃d∈dW g f,d.1=h)↔h=f.1∨∃d∈g,d.1=h:=by
 induction g with
 |nil=>simp[dW,eq_comm]
 |cons o p n=>
  simp only[dW];split
  .simp only[ef,exists_eq_or_imp,n];grind
  constructor
  .rintro⟨d,j,rfl⟩;rcases ef.1 j with rfl|j
   .omega
   exact .inr ⟨d,(lZ.1 j).1,a⟩
  rintro(rfl|⟨d,j,rfl⟩)
  .exact⟨f,iH,a⟩
  by_cases l:d.1=f.1
  .exact⟨f,iH,l.symm⟩
  exact⟨d,k2 _ (lZ.2 ⟨j,by simpa using l⟩),a⟩
def Fx:∀(g f:e cJ) (a:Int),(∃d∈g.foldl dW f,d.1=a)↔(∃d∈g,d.1=a)∨∃d∈f,d.1=a
 |[],f,a=>by simp
 |h::g,f,a=>by rw[hx,Fx g,TJ];grind
def T5{f:bq}(d:right o f=i):∃e,cp e=i/\f.1=dF o e:=by
 unfold right at d;split at d
 .rename_i e a;unfold gT at a;split at a
  .rename_i j;cases a;simp only[ct]at j;exact⟨_,j.1,(by simpa using d:dF o _=f.1).symm⟩
  cases a
 cases d
def UR{a:e bU}(h:∀d∈a,mJ o d):(dk a).all fr=i:=by refine aX.2 λs f=>?_;obtain⟨d,g,f⟩:=nw.1 f;obtain⟨n,j,rfl⟩:=fF.1 f;obtain⟨r,q,l⟩:=T5 ((h d g).g_ n j);have p:=(h d g).b0;simp only[fr,ct,bM,l,dF];omega
def Ao{f:e bU}(x:∀n∈f,mJ o n)(g:Int):hV (dV f) g=0↔g∉b9 f:=by
 have u:=UR x;unfold dV;rw[bF u];have h:=Fx (dk f) [] g;have t:(∃s∈dk f,s.1=g)↔g∈b9 f:=by
  simp only[dk,b9,nw,fF];constructor
  .rintro⟨_,⟨n,p,r,q,rfl⟩,rfl⟩;exact⟨n,p,r,q,a⟩
  rintro⟨n,p,r,q,rfl⟩;exact⟨_,⟨n,p,r,q,a⟩,a⟩
 have y:=(z_ (dk f) [] (aX.1 u) Q List.Pairwise.nil).1;generalize(dk f).foldl dW []=l at *;unfold hV;split
 .rename_i d j;have A:=y d (uX j);have B:d.1=g:=I4;have:g∈b9 f:=by rw[<-t];have:=h.1 ⟨d,uX j,B⟩;simpa using this
  simp only[fr,ct,bM]at A;grind
 rename_i j;have C:=List.find?_eq_none.1 j;refine⟨λ_ w=>?_,λ_=>rfl⟩;obtain⟨s,z,v⟩:=h.2 (.inl (t.2 w));exact C s z (by simpa using v)
def AF{d:e an}{f:bq}:f∈eH o d↔∃g∈d,f=fV o g:=by
 rw[wx];have:∀(a t:e bq),f∈a.foldl eo t↔f∈a∨f∈t:=by
  intro a;induction a with
  |nil=>simp
  |cons h a j=>intro t;rw[hx,j,A8];grind
 rw[this];grind
def wN{o:Int}{p:Int}:∀(h:Nat) (f:Int)(d:e an),c d<=h->(p∈b9 (e5 o h f d)↔∃g∈d,dF o g=p)
 |0,f,d,q=>by have:d=[]:=List.length_eq_zero_iff.1 x;subst this;simp[e5,b9]
 |h+1,f,d,q=>by
  simp only[e5];split
  .have j:=wN (o:=o) (p:=p) h (f+1) (d.drop 4) cb;have n:b9 (jR f o (d.take 4)::e5 o h (f+1) (d.drop 4))=(eH o (d.take 4)).map (·.1)++b9 (e5 o h (f+1) (d.drop 4)):=bH;rw[n,fu,j];have:(p∈(eH o (d.take 4)).map (·.1))↔∃g∈d.take 4,dF o g=p:=by
    rw[fF];constructor
    .rintro⟨r,u,rfl⟩;obtain⟨g,l,rfl⟩:=AF.1 u;exact⟨g,l,a⟩
    rintro⟨g,l,rfl⟩;exact⟨fV o g,AF.2 ⟨g,l,a⟩,a⟩
   rw[this];conv=>rhs;rw[<-sS 4 d]
   grind
  have:d=[]:=List.length_eq_zero_iff.1 x;subst this;simp[b9]
def G6{n:Int}(l:cB n=i):∀(j:Nat) (d:Int)(f:e an),c f<=j->(∀g∈f,cp g=i)->f.Nodup->(b9 (e5 n j d f)).Nodup
 |0,d,f,s,_,_=>by simp[e5,b9]
 |j+1,d,f,s,q,p=>by
  simp only[e5];split
  .have h:b9 (jR d n (f.take 4)::e5 n j (d+1) (f.drop 4))=(eH n (f.take 4)).map (·.1)++b9 (e5 n j (d+1) (f.drop 4)):=bH;have u:(eH n (f.take 4)).Pairwise λt z=>t.1<z.1:=by rw[wx];exact AE _ _ List.Pairwise.nil (AG l (λg o=>q g (gE o)) (p.sublist (List.take_sublist _ _))) Q
   rw[h,qH];refine⟨qG.2 (u.imp λs=>by omega),G6 l j _ _ cb (λg o=>q g (pA o)) (p.sublist (List.drop_sublist _ _)),λA w B v h=>?_⟩;subst h;obtain⟨t,x,rfl⟩:=fF.1 w;obtain⟨y,r,rfl⟩:=AF.1 x;obtain⟨g,o,h⟩:=(wN j _ _ cb).1 v;have h:=wz l (q g (pA o)) (q y (gE r)) h;subst h;rw[<-sS 4 f,qH]at p;exact p.2.2 g r g o a
  exact bH
def To(d:an):(cc d).flatten=d:=by
 have:∀e a,a<=c d->c d-a<=e->(hG d e a).flatten=d.drop a:=by
  intro e;induction e with
  |zero=>intro a h g;simp[hG,CJ (show c d<=a by omega)]
  |succ e f=>
   intro a h g;simp only[hG];split
   .rename_i l;obtain⟨n,j,_⟩:=pY d a l;rw[List.flatten_cons,f _ j x];conv=>rhs;rw[<-sS (ec d a-a) (d.drop a),List.drop_drop,show a+(ec d a-a)=ec d a by omega]
   exact bx
 exact(this (c d) 0 (jG _) x).trans Q
def UC{n:Int}{d:e bU}{f:e a'}(l:cB o=i)(q:dm f=i)(u:∀a∈f,∀h∈cc a.2,di o d (dF o h)=b h):e0 o (f' n o f) d=b f:=by
 have j:=(ut.1 q).1;have s:∀a∈f,fT o d (iV o a)=b a:=λa g=>by
  have t:=u a g;have A:g5 o d (iV o a).2=b (cc a.2):=by
   unfold g5 iV;rw[bF]
   .congr 1;rw[sQ];conv=>rhs;rw[<-List.map_id (cc a.2)]
    exact pB λh p=>by simp[t h p]
   refine aX.2 λz x=>?_;obtain⟨h,p,rfl⟩:=fF.1 x;exact bH
  have y:ig (cc a.2)=b a.2:=by unfold ig;rw[To,(j a g).2];simp
  unfold fT;exact bH
 have w:fb o d (f.map (iV o))=f:=by
  unfold fb;rw[sQ];conv=>rhs;rw[<-List.map_id f]
  exact pB λa g=>by simp[s a g]
 have v:((f.map (iV o)).all λr=>(fT o d r).isSome)=i:=aX.2 λr j=>by obtain⟨a,g,rfl⟩:=fF.1 j;exact bH
 unfold e0 f';simp only[w,v,l,q,Bool.and_self,cN]
structure hf(o:Int)(d:bP)(dd:Int)(w:e a'):Prop where
 a0:iC o d
 g2:i6 d
 fK:1<=dd/\dd<=2
 ey:dm w=i
 f_:fI o d w=m
section
variable {d:bP}{dd:Int}{w:e a'}
def hf.jF(j:hf o d dd w){e:a'}(h:e∈w){f:an}(g:f∈cc e.2):cp f=i:=by have:=(ob (o:=o) (l:=[]) (jw j.ey)).1 f;exact this (ui.2 ⟨⟨e,h,g⟩,a⟩)
def hf.gf(q:hf o d dd w)(l:Int):l∈b9 (c_ o d dd w).1↔l∈b9 d.1∨∃g∈w,∃e∈cc g.2,dF o e=l:=by
 have p:b9 (c_ o d dd w).1=b9 d.1++b9 (jo o d w):=by simp[c_,b9]
 rw[p,fu];unfold jo;rw[wN _ _ _ (bE _)];constructor
 .rintro(h|⟨e,f,rfl⟩)
  .exact .inl h
  obtain⟨⟨g,j,f⟩,_⟩:=ui.1 f;exact .inr ⟨g,j,e,f,a⟩
 rintro(h|⟨g,j,e,f,rfl⟩)
 .simp_all
 by_cases n:dF o e∈b9 d.1
 .simp_all
 exact .inr ⟨e,ui.2 ⟨⟨g,j,f⟩,(Ao q.a0.cw _).2 n⟩,a⟩
def hf.new(f:hf o d dd w):(∀e∈jo o d w,mJ o e)/\(jo o d w).Pairwise (λe v=>e.1<v.1)/\∀e∈jo o d w,cV d<=e.1:=by
 have t:=ob (o:=o) (l:=dV d.1) (jw f.ey);have u:=xg o w (dV d.1);have q:=f.f_;have z:=f.a0.fr;unfold fI at q;unfold jo at *;generalize e6 o w (dV d.1)=l at *;rw[wM o _ _ _ (bE _)]at *;simp only[qE,d6,iI,List.length_range]at q;refine⟨λe p=>?_,?_,λe p=>?_⟩
 .obtain⟨y,a,rfl⟩:=fF.1 p;have a:=pC.1 a;obtain⟨g,h,j,n⟩:=zc t.1 u a;rw[<-wL,AV f.a0.key g h j n,bM];omega
 .rw[qG];refine List.pairwise_lt_range.imp λ{r s} x=>?_;show cV d+(r:Int)<cV d+(s:Int);omega
 obtain⟨y,a,rfl⟩:=fF.1 p;show cV d<=cV d+(y:Int);omega
def iC.gk(h:iC o d):∀f∈d.1,f.1<R1.cV d:=by
 intro f g;obtain⟨e,a,rfl⟩:=ft g;unfold R1.cV;rw[bp x,p4 x];by_cases j:e=c d.1-1
 .exact bH
 have:=k0.1 h.g7 e (c d.1-1) a x x;omega
def iC.gv(h:iC o d):∀f∈d.2.1,f.1<R1.dG d:=by
 intro f g;obtain⟨e,a,rfl⟩:=ft g;unfold R1.dG;rw[bp x,p4 x];by_cases j:e=c d.2.1-1
 .exact bH
 have:=k0.1 h.gq e (c d.2.1-1) a x x;omega
def hf.dH(f:hf o d dd w):∀e∈(c_ o d dd w).1,mJ o e:=λe a=>by
 rcases fu.1 a with a|a
 .exact f.a0.cw e a
 exact f.new.1 e a
def hf.j5(a:hf o d dd w){e:Int}:e0 o (f' e o w) (c_ o d dd w).1=b w:=by refine UC a.a0.key a.ey λn g p f=>?_;obtain⟨q,h⟩:=Fq a.a0.key a.dH ((a.gf _).2 (.inr ⟨n,g,p,f,rfl⟩));obtain⟨j,l,_⟩:=zX h;rw[h,wz a.a0.key j (a.jF g f) l]
def hf.old(a:hf o d dd w){h:fE}{g:e a'}(j:e0 o h d.1=b g):e0 o h (c_ o d dd w).1=b g:=
 UD (λf n=>Rk a.a0.key a.dH (λf l=>(a.gf f).2 (.inl l))) j
def hf.ok(a:hf o d dd w):iC o (c_ o d dd w):=by
 have y:=a.f_;simp only[fI,qE,d6]at y;have s:=a.new;have v:=a.a0.gv;have u:=a.a0.hE a.g2;refine⟨a.dH,?_,?_,λB f=>?_,?_,a.a0.key,?_,by simp only[c_,dZ];omega⟩
 .refine pz.2 ⟨a.a0.g7,s.2.1,λn h p e=>?_⟩;have:=a.a0.gk n h;have:=s.2.2 p e;omega
 .have g:b9 (c_ o d dd w).1=b9 d.1++b9 (jo o d w):=by simp[c_,b9]
  have t:=ob (o:=o) (l:=dV d.1) (jw a.ey);rw[g,qH];refine⟨a.a0.aq,G6 a.a0.key _ _ _ (bE _) t.1 (xg _ _ _),λn h p e g=>?_⟩;subst g;obtain⟨C,z,rfl⟩:=(wN _ _ _ (bE _)).1 e;exact(Ao a.a0.cw _).1 (ui.1 z).2 h
 .rcases fu.1 f with f|f
  .obtain⟨b8,cY⟩:=a.a0.bs B f;obtain⟨D,A⟩:=x_.1 cY;exact⟨b8,by rw[a.old A];rfl⟩
  rw[eN]at f;subst f;exact⟨⟨u,by show dG d<=20;omega⟩,by rw[a.j5];rfl⟩
 .refine pz.2 ⟨a.a0.gq,by simp,λn h p e=>?_⟩;rw[eN]at e;subst e;exact v n h
 have j:=a.a0.ee;have e:=a.fK;simp only[hZ,ct,bM,g0]at j⊢;refine⟨λr q=>?_,by simp only[c_,dZ,iE];omega⟩;simp only[c_,dZ,iE]at q⊢;by_cases g:r<c d.2.2
 .have:=j.1 r g
  rwa [av,jE g,<-av]
 obtain rfl:r=c d.2.2:=x;rw[av,gK (bE _),Nat.sub_self];simp only[j6,hO,hj,ct,bM];omega
end
end R1
def zT{f:Type}(l:f){P:Nat->f->Prop}:∀g:Nat,(∀a,a<g->∃j,P a j)->∃h:e f,c h=g/\∀a,a<g->P a (h.getD a l)
 |0,_=>⟨[],rfl,λa d=>absurd d (gY _)⟩
 |g+1,n=>by obtain⟨h,o,p⟩:=zT l g λa d=>n a x;obtain⟨j,q⟩:=n g x;refine⟨h++[j],by grind,λa d=>?_⟩;grind
inductive mD (bi:Mem) (j r:Nat) (bk:I) (A:Int):Prop
 |int (p:Int) (n:bi j r=b (.int .i64 p)) (hu:∀b0,Rd b0 bk (.int .i64 A))
 |R (d:ByteArray) (n:bi j r=b (.string d)) (l:List UInt8) (hu:∀b0,Rd b0 bk (.R l))
section
variable {r X a2:Nat}{bk:I}{A:Int}
def mD.gO(a:mD bi j r bk A){h:Int}(f:bi X a2=b ai)(l:Rd bi ai (.int .i64 h)):∃g d,bi.up j r bk X a2=b d/\(∀e,Rd e d (.int .i64 g))/\(g=h∨g=A):=by
 unfold Mem.up;by_cases n:X=j/\a2=r
 .obtain⟨rfl,rfl⟩:=n;rw[bF ⟨rfl,rfl⟩];cases a with
  |int _ _ o=>exact⟨A,bk,rfl,o,.inr rfl⟩
  |R p a=>rw[a]at f;cases f;cases l
 rw[bp n,f];cases l with
 |int a=>exact⟨h,_,rfl,λ_=>.int a,.inl rfl⟩
def mD.iO(h:mD bi j r bk A){s:e UInt8}(g:bi X a2=b ai)(p:Rd bi ai (.R s)):∃a d,bi.up j r bk X a2=b d/\∀f,Rd f d (.R a):=by
 unfold Mem.up;by_cases q:X=j/\a2=r
 .obtain⟨rfl,rfl⟩:=q;rw[bF ⟨rfl,rfl⟩];cases h with
  |int t h=>rw[h]at g;cases g;cases p
  |R _ _ a o=>exact⟨a,bk,rfl,o⟩
 rw[bp q,g];cases p with
 |R l n=>exact⟨s,_,rfl,λ_=>.R l n⟩
def mD.fW(a:mD bi j r bk A){h:Bool}{g:Nat}(d:bi X a2=b ai)(e:Rd bi ai (.M h g p es)):bi.up j r bk X a2=b ai:=by
 unfold Mem.up;by_cases f:X=j/\a2=r
 .obtain⟨rfl,rfl⟩:=f;cases a with
  |int p a=>rw[a]at d;cases d;cases e
  |R l a=>rw[a]at d;cases d;cases e
 grind
end
namespace R1
def mv{P:Nat->α->Prop}{e f:α}(j:P 0 e)(h:P 1 f):∀d a,[e,f][d]?=b a->P d a
 |0,_,g=>by grind
 |1,_,g=>by grind
def UP{a:Nat}{d:I}{T:Int}(y:mD bi j a d T){n:e bq}(F:Rd bi ai (.M m 2 (c n) (bS.fn n))):∃p:e bq,c p=c n/\Rd (bi.up j a d) ai (.M m 2 (c p) (bS.fn p)):=by
 obtain⟨V,w,x,B,rfl,s,U,K,H,A⟩:=F.d_;obtain⟨M,z,G⟩:=zT (0,[]) (P:=λg (E:bq)=>∀(o:Nat) (l:D),[D.int .i64 E.1,.R E.2][o]?=b l->∃h,bi.up j a d x (B+g*2+o)=b h/\Rd (bi.up j a d) h l) (c n) λg f=>by obtain⟨S,Q,r0⟩:=A g f 0 _ rfl;obtain⟨w1,J,C⟩:=A g f 1 _ rfl;obtain⟨N,u,R,r,_⟩:=y.gO Q r0;obtain⟨q,v,O,t⟩:=y.iO J C;exact⟨(N,q),mv (P:=λo l=>∃h,bi.up j a d x (B+g*2+o)=b h/\Rd (bi.up j a d) h l) ⟨u,R,r _⟩ ⟨v,O,t _⟩⟩
 exact⟨M,z,by rw[z];exact .fv s U K (λ_ _=>rfl) G⟩
structure uV(A:Int)(aB wS:e bU):Prop where
 len:c wS=c aB
 cd:∀f,f<c aB->(wS.getD f (0,[])).2.length=(aB.getD f (0,[])).2.length/\((wS.getD f (0,[])).1=(aB.getD f (0,[])).1∨(wS.getD f (0,[])).1=A)
def H_{g:Nat}{h:I}{A:Int}(q:mD bi j g h A){f:e bU}(N:pv ai f bi):∃x,uV A f x/\pv ai x (bi.up j g h):=by
 obtain⟨W,w,y,F,rfl,K,U,G,V,B⟩:=Rd.d_ N;obtain⟨r,J,E⟩:=zT (0,[]) (P:=λd (n:bU)=>(c n.2=(f.getD d (0,[])).2.length/\(n.1=(f.getD d (0,[])).1∨n.1=A))/\∀(p:Nat) (o:D),[D.int .i64 n.1,jW n][p]?=b o->∃l,bi.up j g h y (F+d*2+p)=b l/\Rd (bi.up j g h) l o) (c f) λd a=>by obtain⟨T,S,r0⟩:=B d a 0 _ rfl;obtain⟨w1,C,z⟩:=B d a 1 _ rfl;obtain⟨R,v,O,t,H⟩:=q.gO S r0;have s:=q.fW C z;obtain⟨Q,M,u⟩:=UP q z;exact⟨(R,Q),⟨M,H⟩,mv (P:=λp o=>∃l,bi.up j g h y (F+d*2+p)=b l/\Rd (bi.up j g h) l o) ⟨v,O,t _⟩ ⟨w1,s,u⟩⟩
 refine⟨r,⟨J,λd a=>(E d a).1⟩,?_⟩;show Rd _ _ (.M m 2 (c r) (br.fn r));rw[J];exact .fv K U G (λ_ _=>rfl) λd a=>(E d a).2
structure hL(d:bP):Prop where
 aR:∀aR∈d.1,c aR.2<=4/\0<=aR.1/\aR.1<=99
 dh:c d.1<=20
 ck:∃aB,fC (aB,d.2)
def fC.fz{d:bP}(a:fC d):hL d:=⟨λf e=>by have g:=(a.aR f e).len;have h:=(a.aR f e).b0;omega,a.dh,d.1,a⟩
def hL.j2{a:bP}(f:hL a){j:e bU}(d:uV 0 a.1 j):hL (j,a.2):=by
 refine⟨λq n=>?_,by rw[d.len];exact f.dh,f.ck⟩;obtain⟨l,g,rfl⟩:=CL.1 n;have h:l<c a.1:=by rw[<-d.len];exact g
 have o:=d.cd l h;have p:=f.aR _ (kF h (0,[]));grind
def hL.sub{d:bP}(g:hL d){f:e bU}(j:∀a∈f,a∈d.1)(h:c f<=c d.1):hL (f,d.2):=⟨λa l=>g.aR a (j a l),i_ h g.dh,g.ck⟩
def hL.size{e:bP}(d:hL e):iB e:=by obtain⟨l,g⟩:=d.ck;have a:=g.size;have h:=d.dh;exact⟨by omega,λj f=>by have:=(d.aR j f).1;omega,a.bs,a.cy,a.bF⟩
def hL.num{e:bP}(d:hL e):i6 e:=by obtain⟨j,g⟩:=d.ck;have a:=g.num;exact⟨λh f=>by have:=(d.aR h f).2;omega,a.cL,a.bF⟩
def H6{lu:Int}{f:e a'}(l:dm f=i):c (wA (f' lu o f).2)<=240:=by have d:=ut.1 l;refine Wn ⟨by simpa[f']using d.2.2.2,λp h=>?_⟩;obtain⟨a,g,rfl⟩:=fF.1 h;have j:=(d.1 a g).2;simp only[fa,ct,bM]at j;have n:=qf a.2;show((cc a.2).map _).length<=40;grind
def hL.ef{a:bP}(g:hL a):c (oE a.2.1)<=4800:=by
 obtain⟨j,d⟩:=g.ck;have n:=d.M;have o:c (oE a.2.1)<=240*c a.2.1:=tr λl f=>by obtain⟨h,p,_,_,e,rfl⟩:=(d.cL l f).ck;exact H6 e
 grind
def hL.fy{e:bP}(d:hL e):mK e:=by
 have a:=d.size;have g:=d.dh;have h:=d.ef;have l:c (b9 e.1)<=4*c e.1:=tr λj f=>by rw[iI];exact(d.aR j f).1
 exact⟨⟨a.aR,a.cy,a.bs,by omega⟩,a.df,by omega⟩
end R1
def cW.hv{j:al P}{h:Nat->s}{g:Bool->Bool->Bool->Bool->e Y}{a d f3 f4:Nat}(p:aa a f=m)(q:aa d f=m)(w:aa f3 f=m)(v:aa f4 f=m)(u:d9 all f4 f=i)(x:∀l n o,a0 j B all r (dr all F h f) (g l n o m) (h f) (g l n o m)):cW j B all F h (ma g a d f3 f4) f r:=by intro s aG t;grind[lJ]
namespace R1
variable {q:al R}[q.bT]
abbrev Mj(d:Nat):={a:bP×Nat // hL a.1/\d<=a.2/\a.2<=d+1100}
def hL.h9{a:bP}(e:hL a)(d:Nat):hL (a.1.take d++a.1.drop (d+1),a.2):=e.sub (λg f=>by grind) J
def rM{h j d:Nat}{a:e bU}(t:pv (.slice (b ⟨h,j,k⟩) (c a) d) a bi)(g:f<c a):(∃u,bi h (j+f*2)=b (.int .i64 u))/\∃n,bi h (j+f*2+1)=b n/\Rd bi n (jW (a.getD f (0,[]))):=by obtain⟨w,o,y,A,q,_,_,s,_,l⟩:=Rd.d_ t;cases q;cases s x;obtain⟨v,z,r0⟩:=l f g 0 _ rfl;obtain⟨w1,r,p⟩:=l f g 1 _ rfl;refine⟨?_,w1,r,p⟩;cases r0;grind
theorem Gc{g h a:Nat}{f:e bq}(q:Rd bi (.slice (b ⟨g,h,k⟩) (c f) a) (.M m 2 (c f) (bS.fn f)))(d:0<c f):∃r,bi g (h+0*2+1)=b (.string r):=by obtain⟨s,j,t,v,n,_,_,p,_,o⟩:=q.d_;cases n;cases p d;obtain⟨w1,u,l⟩:=o 0 d 1 _ rfl;cases l;grind
abbrev hk(d:bP)(a:Nat):Nat:=cE (c d.1) (b (a:Int))-cE 0 k
abbrev mh(d:bP)(a:Nat):Nat:=cE (c d.1) k-cE 0 (b ((a:Int)+1))
abbrev mX(a:bP):Nat->e D:=gR (cE 0 k) (br.fn a.1)
abbrev dU(d:bP)(a:Nat):Nat->e D:=gR (cE 0 (b ((a:Int)+1))) (br.fn d.1)
abbrev s0(d:bP)(a:Nat):Y:=.A 61 2 (0+hk d a) (b_ 0 (λa=>([]:e (e D)).getD a []) (mX d))
abbrev vk(d:bP)(a:Nat):Y:=.A 61 2 (0+hk d a+mh d a) (b_ (0+hk d a) (b_ 0 (λa=>([]:e (e D)).getD a []) (mX d)) (dU d a))
def C2(h:Nat)(f:Nat->Int)(g:Int)(a:bP)(d:Nat)(j l n o:Bool):e Y:=
 match j,l,n,o with
 |true,i,i,i=>[dD h f g,fp,ng,.cells 27 [.ak 4 (.M (0+hk a d+mh a d) 2 0 (0+hk a d+mh a d)),.c (jX a.2.1),.c (iZ a.2.2)],vk a d]
 |true,i,i,m=>[dD h f g,fp,ng,f_ a,vk a d]
 |true,i,m,_=>[dD h f g,fp,ng,f_ a,vk a d]
 |true,m,_,_=>[dD h f g,fp,ng,f_ a,s0 a d]
 |false,_,_,_=>[dD h f g,fp,ng,f_ a]
abbrev WN(d:bP)(a f:Nat):s:=
 [aL (.M i 2 0 λa=>([]:e (e D)).getD a []),ba 3 0,br.M d.1,S a,aL (.M m 2 (hk d a) (mX d)),dR 4 (.M (0+hk d a) 2 0 (0+hk d a)),
  ba 3 0,br.M d.1,S a,S ((a:Int)+1),aL (.M m 2 (mh d a) (dU d a)),dR 4 (.M (0+hk d a+mh d a) 2 0 (0+hk d a+mh d a)),ba 3 0,.any].getD f .any
set_option maxRecDepth 20000 in
def QS(z:Nat)(j:Nat->Int)(W:Bytes j)(o:Nat)(af:o<=40000)(ab:z<=1048576):
  bG (ι:=Mj o) q 13 [ba 0 0] [dD z j o] (λI=>fg I.1.1) (λI=>[dD z j I.1.2]):=by
 refine bG.c5 bv func13 rfl rfl rfl λaB=>?_;refine a8 a M (g.a4 (QV z j W o af ab) [0] a bN ?_);rintro⟨⟨d,aG,k1⟩,w,al,C⟩;simp only at w al C;refine a_ [902] a M ?_;have aJ:=w.dh;by_cases ar:c d.1=0
 .refine g.eA 2 3 0 (T:=61) (o:=2) (oK:=kO d.1) cz a a a (λ_ n=>n) ?_;refine a_ [10] a (by simp[ar]) (g.cc ⟨(d,k1),w.fz,al,by grind⟩ [0] ?_ gN);simp
 refine g.fb (ea.of (l:=2) (U:=∃t r y R,aG=.slice t (c d.1) r/\(0<c d.1->t=b ⟨y,R,k⟩)) a λJ h=>?_) ?_
 .grind [Rd.d_]
 rintro⟨t,r,y,R,rfl,ae⟩;obtain rfl:=ae x;refine a_ [-10] a (by simp[ar];omega) (g.a4 (jg z j W k1 (c d.1) x ab x) [0] a bN ?_);rintro⟨f,ah,E⟩;obtain⟨f,rfl⟩:=Int.eq_ofNat_of_zero_le ah;have E:f<c d.1:=x;refine a8 a M (g.a4 (jg z j W (k1+1) 24 x ab x) [0] a bN ?_);rintro⟨B,aH,w1⟩;refine a_ [906] a M ?_;have G:0<(d.1.getD f (0,[])).2.length:=w.bN _ (kF E (0,[]));by_cases ao:B=0
 .have ai:V (ib (c d.1) k (b (f:Int))):=uG;have n1:V [a9 .i64 ((f:Int)+1)]:=pk;have az:V (ib (c d.1) (b ((f:Int)+1)) k):=uG;have ay:hk d f=f:=by show((f:Int)).toNat-0=f;omega
  have aA:mh d f=c d.1-(f+1):=by show c d.1-((f:Int)+1).toNat=_;omega
  have aj:V [(0+hk d f)*nS.bytes<=140737488355328]:=by rw[show nS.bytes=32 from a,ay];simp only[V];omega
  have aq:V [0+hk d f=0+hk d f,0+hk d f=0+hk d f,(0+hk d f+mh d f)*nS.bytes<=140737488355328]:=by refine⟨rfl,rfl,?_⟩;rw[show nS.bytes=32 from a];simp only[V];omega
  refine g.eA 2 3 0 (T:=61) (o:=2) (oK:=kO d.1) cz a a a (λ_ n=>n) ?_;refine a_ [20,907] a (by simp[ao]) ?_;refine g.dP c5 (WN d f) (ma (C2 z j (k1+1+1:Nat) d f) 5 11 12 13) a a a a
   ⟨.a',
   .a',
   cW.hv a a a a a (λt j u=>by cases t<;>cases j<;>cases u<;>exact a0.x),
   .a',
   .ft bv a3.nil ai,
   cW.eH a a a a a a (h1 (bK:=[3000026]) bv a3.nil (aO:=b _) a aj),
   .a',
   cW.hv a a a a a (λt j u=>by cases t<;>cases j<;>cases u<;>exact a0.x),
   .a',
   .ft bv a3.nil n1,
   .ft bv a3.nil az,
   cW.fP a a a a a a (h1 (bK:=[]) bv a3.nil (aO:=b _) a aq),
   cW.fQ a a a a a a (a0.x),
   cW.fR a a a a a a (h1 (bK:=[]) bv a3.nil (aO:=b _) a M),M⟩ ?_
  intro s S;show g q _ _ _ _ _ (C2 z j (k1+1+1:Nat) d f (s 5) (s 11) (s 12) (s 13));rw[S 5 cz,S 11 cz,S 12 cz,S 13 cz];refine g.dF (c':=[(2,ba 1 0),(3,ba 3 0)]) (aO:=[dD z j (k1+1+1:Nat),fp,ng,.cells 27 [.ak 4 (.M (0+hk d f+mh d f) 2 0 (0+hk d f+mh d f)),.c (jX d.2.1),.c (iZ d.2.2)],vk d f]) ?_ a Q a Q;refine g.cE 4 a a a Q Q (a8 a M (g.cc ⟨((d.1.take f++d.1.drop (f+1),d.2),k1+1+1),w.fz.h9 f,by grind,by grind⟩ [0] ?_ gN));simp only[V.W,V];refine⟨⟨by grind,λaE aC=>?_⟩,⟨M,.same⟩,⟨M,.same⟩,M⟩;show b_ (0+hk d f) (b_ 0 (λf=>([]:e (e D)).getD f []) (mX d)) (dU d f) aE=_;rw[ay,cX];simp only[b_,mX,dU,gR,cE,cX,gY,cr,pF,dO.fn,hH,show((f:Int)+1).toNat=f+1 by omega];grind
 by_cases H:B=1
 .refine a_ [-20,35] a (by simp[H];omega) (g.bO _ _ a a (d_.jl bv 2 a a bN a a (λJ h=>?_)) λw1=>?_)
  .obtain⟨_,B,X,v⟩:=rM h E;exact⟨B,X,v.cell⟩
  refine g.fV (ea.of (l:=2) (U:=∃aw au K,w1=.slice (b ⟨aw,au,k⟩) (d.1.getD f (0,[])).2.length K) a λJ h=>?_) ?_
  .obtain⟨_,B,X,v⟩:=rM h.1 E;cases X.symm.trans h.2;grind[Rd.d_]
  rintro⟨aw,au,K,rfl⟩;refine a8 a (by simp only[V];omega) (g.bO _ _ a a (d_.hJ bv 2 a a a a a a a (λJ h=>?_)) ?_)
  .obtain⟨_,B,X,v⟩:=rM h.1 E;cases X.symm.trans h.2;grind[Gc]
  rintro⟨aF,Z⟩;refine a_ [912] a M (g.ez (ι:={N:e bU // uV 0 d.1 N}) 2 (λI=>ea (pv (.slice (b ⟨y,R,k⟩) (c d.1) r) I.1)) a (λ_ ad F=>?_) ?_)
  .obtain⟨P,ax,J,h,ag⟩:=F;obtain⟨_,B,X,v⟩:=rM h.1 E;cases X.symm.trans h.2;obtain⟨ak,L⟩:=Gc v G;obtain⟨N,Y,O⟩:=H_ (A:=0) (mD.R ak L _ Z) h.1;exact⟨⟨N,Y⟩,P,ax,by grind⟩
  exact Js
 by_cases an:B=2
 .refine a_ [-20,-35,45] a (by simp[an];omega) (g.bO _ _ a a (d_.hJ bv 2 a a a a a a a (λJ h=>?_)) ?_)
  .obtain⟨⟨p,X⟩,_⟩:=rM h E;exact⟨_,X⟩
  rintro⟨aF,Z⟩;refine a_ [912] a M (g.ez (ι:={N:e bU // uV 0 d.1 N}) 2 (λI=>ea (pv (.slice (b ⟨y,R,k⟩) (c d.1) r) I.1)) a (λ_ ad F=>?_) ?_)
  .obtain⟨P,ax,J,h,ag⟩:=F;obtain⟨⟨p,X⟩,_⟩:=rM h E;obtain⟨N,Y,O⟩:=H_ (A:=0) (mD.int p X Z) h;exact⟨⟨N,Y⟩,P,ax,by rw[ag];exact O⟩
  exact Js
 refine g.eA 2 3 0 (T:=61) (o:=2) (oK:=kO d.1) cz a a a (λ_ n=>n) ?_;refine a_ [-20,-35,-45] a (by simp[ao,H,an]) (g.cc ⟨(d,k1+1+1),w.fz,by grind,by grind⟩ [0] ?_ gN);simp
end R1
namespace R1
def NJ(o:Nat)(e:Nat->Int)(h:Bytes e)(s:o<=1048576):L9 o e:=by refine bG.gZ func4 rfl rfl (e' rfl) (g.aW ?_);refine a8 a M ?_;refine g.a4 (Qa o e s) [] a bN ?_;rintro⟨j,d⟩;refine a8 a M ?_;refine g.a4 (QS j e h 0 x d) [1] a bN ?_;rintro⟨⟨v,n⟩,f,_,l⟩;simp only at f l;refine a8 a M ?_;refine g.a4 (jg j e h n 2 x d x) [1] a bN ?_;rintro⟨p,y,z⟩;refine a8 a pk ?_;refine g.a4 (jg j e h (n+1) 24 x d x) [1] a bN ?_;rintro⟨q,w,w1⟩;refine a8 a pk ?_;refine g.a4 (Q5 j e h (n+1+1) x d) [1] a bN ?_;intro u;refine a8 a M ?_;refine g.freeze 3 0 a a a ?_;have r:1<=1+p+q / 23/\1+p+q / 23<=3:=x;refine g.bC (λ_ _ _ t=>⟨⟨(v,1+p+q / 23,u.dE),f.size,f.fy,f.num,r,f.ef⟩,t⟩) ?_;refine g.gp bv [] a ?_ a a a ro;simp
def H8{d:bP}{dd:Int}{w:e a'}(h:i6 d)(g:(i1 o d dd w).2=i):hf o d dd w/\i1 o d dd w=(c_ o d dd w,i):=by
 unfold i1 at *;split at g
 .rename_i a;have f:fI o d w=m:=J;exact⟨⟨ql.1 a.1,h,a.2.1,a.2.2,f⟩,by simp[a,f]⟩
 cases g
def hf.size{d:bP}{dd:Int}{w:e a'}(a:hf o d dd w)(f:iB d):iB (c_ o d dd w):=by
 have:=Bu (o:=o) (dd:=dd) (w:=w) f
 rwa [UM (ql.2 a.a0) a.fK a.ey,a.f_]at this
def hf.ef{d:bP}{a:Int}{f:e a'}(g:hf o d a f):c (oE (c_ o d a f).2.1)<=c (oE d.2.1)+240:=by have:=H6 (lu:=dG d) (o:=o) g.ey;simp only[c_,oE,u4,dZ,oy,List.flatMap_nil,iJ];omega
def iC.fy{a:bP}(e:iC o a)(d:iB a)(g:c (oE a.2.1)<=4000000):mK a:=by
 have j:c (b9 a.1)<=4*c a.1:=tr λh f=>by rw[iI];exact(e.cw h f).len.2
 have:=e.len;exact⟨⟨d.aR,d.cy,d.bs,g⟩,d.df,by omega⟩
def iC.num{f:bP}(e:iC o f):i6 f:=by
 refine⟨λn g=>?_,λp j=>?_,λq h=>?_⟩
 .have:=(e.cw n g).b0;omega
 .have:=(e.bs p j).1;omega
 have d:=e.ee;simp only[hZ,ct,g0]at d;obtain⟨l,a,rfl⟩:=ft h;have:=d.1 l a;simp only[hj,ct,bM,p4 a]at this;omega
def G5{o:Int}:∀(f:Nat) (a:Int)(d:e an),c d<=f->c (b9 (e5 o f a d))=c d
 |0,a,d,j=>by simp[e5,b9];omega
 |f+1,a,d,j=>by
  simp only[e5];split
  .have g:=G5 (o:=o) f (a+1) (d.drop 4) J;have h:b9 (jR a o (d.take 4)::e5 o f (a+1) (d.drop 4))=(eH o (d.take 4)).map (·.1)++b9 (e5 o f (a+1) (d.drop 4)):=by simp[b9];rfl
   rw[h,dZ,g,iI,rG];grind
  simp[b9];omega
def Ug{d:bP}{dd:Int}{w:e a'}:c (b9 (c_ o d dd w).1)=c (b9 d.1)+c (e6 o w (dV d.1)):=by have:=G5 (o:=o) (c (e6 o w (dV d.1))) (cV d) (e6 o w (dV d.1)) (bE _);simp only[c_,b9,u4,dZ]at this⊢;rw[<-this];rfl
def hf.gu{n:bP}{d:Int}{j bk:e a'}{A:an}(l:hf o n d j)(p:∀g∈bk,g∈j∨g.2=A):c (e6 o bk (dV (c_ o n d j).1))<=c (cc A):=by
 refine GA _ _ (xg _ _ _) λs h=>?_;obtain⟨⟨g,r,h⟩,q⟩:=ui.1 h;rcases p g r with f|f
 .exact absurd ((l.gf _).2 (.inr ⟨g,f,s,h,a⟩)) ((Ao l.dH _).1 q)
 exact f▸h
def xv:e an:=[[],[97],[104,101,108,108,111],[97,98,99,97,98,99,97,98,99,97,98,99],[107,101,101,112,116,104,105,115,111,110,101],[122,122,122,122,122,122,122,122,122,122,122,122,122,122,122,122],[116,104,101,113,117,105,99,107,98,114,111,119,110,102,111,120]]
def jx(a:Int):an:=xv.getD (a % 7).toNat []
def PK{f:al R}(d:Int)(n:0<=d)(h:d<=4000000):ad f 9 [S d] [] (bC (jx d)) []:=by
 refine ad.E func9 rfl λj=>?_;refine a_ [901] a M (g.region ?_);refine is [] 3 a hc ?_;have e:d % 7=0∨d % 7=1∨d % 7=2∨d % 7=3∨d % 7=4∨d % 7=5∨d % 7=6:=x;rcases e with e|e|e|e|e|e|e
 all_goals (unfold jx;rw[e];exact a8 rfl Q (g.an rfl (by simp[xv])))
abbrev vx:bB:=df dc (λa=>bC (jx a)) λa=>[0<=a,a<=4000000]
def BK{d:al R}:bI d 9 vx:=.a3 λe a=>PK e a.1 a.2
def Wy(d:Int):∃a,a<7/\jx d=xv.getD a []:=⟨(d % 7).toNat,by omega,rfl⟩
abbrev D0:bB:=jJ (fQ bf) dT dT (λe a d=>lG (e9 e a d).1 (e9 e a d).2) λ_ a d=>[c a<=9223372036854775807,c d<=9223372036854775807]
def Wf{d:al R}:bI d 8 D0:=.cJ λf e g a=>Fj f e g a.1 a.2
def Gv{d:a'}:∀{f:e a'}{a:a'},d∈fw f a->d=a∨d∈f
 |[],a,n=>by simp[fw]at n;exact .inl n
 |g::h,a,n=>by
  simp only[fw]at n;split at n
  .rcases ef.1 n with n|n
   .exact .inl n
   exact .inr hc
  split at n
  .rcases ef.1 n with n|n
   .exact .inl n
   exact .inr n
  rcases ef.1 n with n|n
  .exact .inr hc
  rcases Gv n with n|n
  .exact .inl n
  exact .inr hc
def Wx{w:e a'}{U A:an}(d:(e9 w U A).2=i):fa A=i/\∀g∈(e9 w U A).1,g∈w∨g.2=A:=by
 unfold e9 at *;split at d
 .rename_i f;rw[bF f];split at d
  .rename_i j;rw[bF j,Hq _ (BO f.1)];refine⟨f.2.2,λg h=>?_⟩;rcases Gv h with rfl|d
   .exact .inr a
   exact .inl d
  cases d
 cases d
abbrev h2:D:=.M i 1 3 λa=>([[.R [97]],[.R [98]],[.R [101]]]:e (e D)).getD a []
abbrev GX(a:Nat):e D:=([[.R [97]],[.R [98]],[.R [101]]]:e (e D)).getD ((a:Int) % 3).toNat []
def Ta(a:Nat):∃d:an,GX a=[.R d]/\c d<=9223372036854775807:=by
 unfold GX;have:((a:Int) % 3).toNat<3:=x
 match((a:Int) % 3).toNat,this with
 |0,_=>exact⟨_,rfl,by decide⟩
 |1,_=>exact⟨_,rfl,by decide⟩
 |2,_=>exact⟨_,rfl,by decide⟩
abbrev WU(l:e a')(a:Nat)(g:Nat->Int)(d:e a')(f:Bool)(h:an)(j:Nat):s:=
 [bf.M l,aL h2,aL (.M m 1 a (j_ g)),S a,S ((a:Int) % 3),aL (.U [.R h]),bC h,aL (.M m 1 a (j_ g)),S a,bC (jx a),lG d f,lG d f,bf.M d,bm f,bf.M d,bm f].getD j .any
def PE(r n:ab×I)(a2 h:Nat)(j O:Nat->Int)(aB:Bytes j)(_:Bytes O)(_:a2<=9223372036854775807)(_:h<=9223372036854775807):ad (al.a8 R) 3 [aL (.M m 1 a2 (j_ j)),aL (.M m 1 h (j_ O))] (ps r n) (bm i) (ps r n):=by
 refine ad.E func3 rfl λaF=>?_;by_cases aG:1048576<a2
 .refine a_ [20,24] a cb (g.aQ [0,1,2] a ?_ oQ);simp
 by_cases aj:1048576<h
 .refine a_ [-20,24] a cb (g.aQ [0,1,2] a ?_ oQ);simp
 refine a_ [-20,-24] a cb (g.a4 (NJ a2 j aB x) [] a bN ?_);rintro⟨⟨d,dd,w⟩,l,C,E,aA,az⟩;simp only at l C E aA az;have N:h5 7 d=i->uT 7 d:=λaE=>(ql.1 aE).fw E;have ai:=Q0 (q:=al.a8 R) 7 d dd w l E N;have aq:=Fa r n 7 d dd w l C E mw N;rw[F3]at aq;refine a8 a M (g.aF ai [] a (a8 a M (g.aF aq [0,1,2] a ?_)));have H:=PJ (q:=al.a8 R) (i1 7 d dd w).1 (Bu l);have J:=H8 (o:=7) (d:=d) (dd:=dd) (w:=w) E;generalize i1 7 d dd w=F at *;obtain⟨A,ok⟩:=F;have f:a3 (al.a8 R) [(7,k' [fg A,fg A] (bm i)),(9,vx),(8,D0)]:=.cons (nh H) (.cons BK (.cons Wf .nil));cases ok with
 |false=>
  refine bs f [-51,-57,60,64] a ?_ (g.aQ [0,1,2] a Q oQ);simp
 |true=>
  obtain⟨v,B⟩:=J rfl;cases B;have K:=v.size l;have Y:=v.ok;have aQ:=v.ef;have af:=Y.fy K x;have Z:=Y.num;have aS:c (jx h)<=100:=by obtain⟨u,T,B⟩:=Wy h;rw[B];have:∀u,u<7->c (xv.getD u [])<=100:=cz;exact this u T
  have au:=l.bF;have aw:=l.aR;have ax:=l.bs;refine bs f [-51,-57,-60,908] a Q ?_;obtain⟨aJ,aK,aM,aN,aO⟩:=N (ql.2 v.a0);clear f H ai aq J;have ak:=C.dv;have an:=af.dv;obtain⟨U,S,ay⟩:=Ta h;have aC:=Wx (w:=w) (U:=U) (A:=jx h);have f:a3 (al.a8 R) [(9,vx),(8,k' [bf.M w,bC U,bC (jx h)] (lG (e9 w U (jx h)).1 (e9 w U (jx h)).2))]:=.cons BK (.cons (nh (Fj w U (jx h) ay x)) .nil);generalize aH:e9 w U (jx h)=F at *;obtain⟨bk,put⟩:=F;refine g.dP c5 (WU w h O bk put U) (oR (λ_ _=>ps r n++[f_ d,f_ (c_ 7 d dd w),f_ (c_ 7 d dd w)]) 98 99) a a a a
   ⟨.bP,.bP,.bP,.bP,.dx bv f (cO:=by simp[a9]),
   cW.hs a a (λt j=>by show a0 _ _ _ _ _ _ (aL (.U [.R U])) _;rw[<-S];exact a0.aI (aR.indexAddr (a2:=((h:Int) % 3).toNat) (y:=(h:Int) % 3) (p:=3) (es:=λu=>([[.R [97]],[.R [98]],[.R [101]]]:e (e D)).getD u []) bv a a a a (λd aT aP=>b2 aP) a x x) a),
   .bP,.bP,.bP,.dx bv f (cO:=by simp;omega),.dx bv f (cO:=by simp;rfl),.bP,.bP,.bP,.bP,.bP,M⟩ ?_
  rintro s -;show g _ _ _ _ _ _ (ps r n++[f_ d,f_ (c_ 7 d dd w),f_ (c_ 7 d dd w)]);cases put with
  |false=>
   refine bs f [84] a Q (g.aQ [0,1,2] a ?_ oQ);simp
  |true=>
  obtain⟨X,W⟩:=aC rfl;have ag:=Fa r n 7 (c_ 7 d dd w) dd bk K af Z mw λ_=>Y.fw Z;rw[F3]at ag;have J:=H8 (o:=7) (d:=c_ 7 d dd w) (dd:=dd) (w:=bk) Z;have L:=v.gu (bk:=bk) (A:=jx h) W;have ao:=Ug (o:=7) (d:=c_ 7 d dd w) (dd:=dd) (w:=bk);have G:=Bu (o:=7) (dd:=dd) (w:=bk) K;have ae:iO (jx h)=cc (jx h):=by unfold iO;rw[bF X]
  have ar:=qf (jx h);have z:a3 (al.a8 R) [(9,vx),(10,DG),(11,df dT (λd=>bD.M (iO d)) λ_=>[])]:=.cons BK (.cons VS (.cons xm .nil));refine bs f [-84] a Q (g.aF ag [0,1,2] a ?_);generalize i1 7 (c_ 7 d dd w) dd bk=F at *;obtain⟨aU,ok⟩:=F;cases ok with
  |false=>
   exact bs z [95] a Q (g.aQ [0,1,2] a Q oQ)
  |true=>
   obtain⟨ah,B⟩:=J rfl;cases B;have P:=(ah.ok.fy G (by have:=ah.ef;omega)).dv;refine bs z [-95] a ?_ (g.aQ [0,1,2] a ?_ oQ)
   .simp only[V,br.aa,cG.aa,bV.aa,a9];and_intros<;>first|rfl|exact br.ad _|exact cG.ad _|exact bV.ad _|exact G.df|exact K.df|exact P|omega|(rw[ae];omega)|(simp;omega)|skip
   simp only[V,br.aa,cG.aa,bV.aa,ae];simp;omega
end R1
end Go.AM
