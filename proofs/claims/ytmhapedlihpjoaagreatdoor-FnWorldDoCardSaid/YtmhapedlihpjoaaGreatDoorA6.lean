/- Part 6. No condition. -/
import Derived.Test.YtmhapedlihpjoaaGreatDoorA5
import Derived.Conc.CrowdComm
import Derived.Conc.SmallLaws
import Derived.Conc.EventLaws
set_option linter.all false
set_option maxHeartbeats 8000000
open Go.Proofs
open Go.Proofs.Tryz
open List renaming length → c, range → aC, getD_eq_getElem?_getD → al, all_eq_true → aZ
open Go renaming Value → aa, TypeId → av, World → au, Frame → aK, Operand → aA, Program → aI, Goroutine → ak, Oper → ap
open Option renaming some → h, none → q
open Bool renaming true → f, false → m
open Nat renaming ble → ay
open Go.Proofs.Tryz renaming prog → V
namespace Go.AM
variable {k A:Nat}{i:Int}{d j e w:Nat}{W:av}{H:aa->(Nat->Option Obj)->Prop}{L:Array Bool}{bE:Mem}{D:Nat}{P:aI}{br:ak->a6->Prop}{s:Code}{C:ak}{t:ap}{b:a6}{o:av}{ab:aa}{l X:aA}{α:Type}{η:aA->z}{ι:Type}{n:p an}{F:bJ}{all:p ap}{du:Array av}{cap:p N}{cV:p z}{lb:Nat->Option Obj}{ah:p aK}{bh:p (Nat×Bool)}{T:Nat->p N}{cR:aA}{gs:Array ak}{aP:p Nat}{ck:p Prop}{off:Nat}{op:BinOp}{aD:Array ap}{Y:p Prop}{bt:p ap}{az:a6}{ty:av}{val:Nat->Nat->aa}{B:p aa}{bi:au}{ag:Array aA}{ao dh:p an}{res:ι->z}{aM:ι->p an}
variable {CT:p (Nat×bL)}{ar:p il}{bf:fw}{ad:p (Nat×bx)}{a5:bx}
namespace R1
def kz(a:dR):Nat->dR
 |0=>a
 |b+1=>jz (kz a b)
def Ml{Q}:∀{w:Nat},w<=c Q.2.2->(kz Q w).1.2=Q.1.2/\(kz Q w).2.1=Q.2.1/\(kz Q w).2.2=Q.2.2.drop w/\(kz Q w).1.1=(Q.2.2.take w).foldl (λd b=>fi b Q.2.1 d) Q.1.1
 |0,_=>⟨rfl,rfl,rfl,rfl⟩
 |w+1,n=>by
  obtain⟨k,j,l,e⟩:=Ml (Q:=Q) (w:=w) y;have i:Q.2.2.drop w=Q.2.2.getD w 0::Q.2.2.drop (w+1):=by rw[RS y];simp[bK (show w<c Q.2.2 by omega)]
  have g:kz Q (w+1)=((fi (Q.2.2.getD w 0) Q.2.1 (kz Q w).1.1,(kz Q w).1.2),(kz Q w).2.1,Q.2.2.drop (w+1)):=by rw[show kz Q (w+1)=jz (kz Q w)from a];unfold jz;simp_all
  rw[g,ih y 0,uE,<-e];simp_all
def kH.h7{i}{d}(b:kH i d):∀a,kH i (kz d a)
 |0=>b
 |a+1=>(kH.h7 b a).step
def Lt{cv}{bO}:∀{Y:p cb}{e:Nat},(Y.Pairwise λa b=>a.1<b.1)->(∀a∈Y,a.2≠[])->e<c Y->(Y.getD e (0,[])).1=bO ->
  gN (λa:cb=>a.1==bO) Y=e/\fi bO cv Y=if(hH (Y.getD e (0,[])) cv).2.length=0 then Y.eraseIdx e else Y.set e (hH (Y.getD e (0,[])) cv)
 |a::Y,0,j,i,_,d=>by
  obtain⟨l,r⟩:=iF.1 j;simp only[List.getD_cons_zero]at d⊢;have k:Y.map (iY bO cv)=Y:=by rw[rv (g:=id) λb g=>by have:=l b g;exact bm y,List.map_id]
  refine⟨by simp[gN,List.findIdx?_cons,d],?_⟩;unfold fi;rw[mq,k,show iY bO cv a=hH a cv from bs d,sA,sr.2 λb g=>by simpa using i b (mt _ g)];split<;>split<;>simp_all
 |a::Y,e+1,j,i,n,d=>by
  obtain⟨l,r⟩:=iF.1 j;simp only[List.getD_cons_succ,fp]at d n⊢;obtain⟨k1,u⟩:=Lt (cv:=cv) (e:=e) r (λb g=>i b (mt _ g)) y d;have t:Y.getD e (0,[])∈Y:=M;have s:a.1≠bO:=by have:=l _ t;omega
  have w:=i a ir;refine⟨?_,?_⟩
  .unfold gN at k1⊢;rw[List.findIdx?_cons];have:(a.1==bO)=m:=bw;rw[this];cases o:Y.findIdx? λa=>a.1==bO with
   |none=>rw[o]at k1;exact bH
   |some v=>rw[o]at k1;exact bw
  have k:fi bO cv (a::Y)=a::fi bO cv Y:=by unfold fi;rw[mq,show iY bO cv a=a from bm s,sA,bs bw]
  rw[k,u];split<;>simp
def kw(a:p Int)(d:p cb)(e b:Nat):p cb×Nat:=
 if(hH (d.getD b (0,[])) a).2.length=0 then(oh d e b,e-1)else(d.set b (hH (d.getD b (0,[])) a),e)
def abA{cv}{bO}{d}(k:A<=c d)(a:e<A)(j:(d.take A).Pairwise λb p=>b.1<p.1)(n:∀b∈d.take A,b.2≠[])(o:(d.getD e (0,[])).1=bO):
  gN (λb:cb=>b.1==bO) (d.take A)=e/\(kw cv d A e).1.length=c d/\(kw cv d A e).2<=A/\(kw cv d A e).1.take (kw cv d A e).2=fi bO cv (d.take A):=by
 have i:(d.take A).getD e (0,[])=d.getD e (0,[]):=by simp[iq,a]
 obtain⟨k1,g⟩:=Lt (cv:=cv) (bO:=bO) (Y:=d.take A) (e:=e) j n dD (i▸o);rw[i]at g;rw[g];unfold kw;split
 .refine⟨k1,S8 k a,by omega,?_⟩;unfold oh;have l:c ((d.take A).eraseIdx e)=A-1:=Ny;simp only;exact List.take_left' l
 exact⟨k1,by simp,bB _,by rw[AQ]⟩
section
variable {r:aj V}
def Vp(b)(k):Z r 127 [fG b,ax (.O [.int .i64 k])] [] (bj (b.1==k)) []:=by refine Z.K func127 rfl λd=>?_;exact a0 a v (g.aw a)
abbrev lT(b:p cb)(a:Nat):cb:=b.getD (0+(a:Int).toNat) a2.I
abbrev Ls(d:p cb)(b:Nat)(a:p Int):an:=.cells 89 [.c (.int .i64 (lT d b).1),.c (lr (hH (lT d b) a))]
end
structure wM(Q:dR)(Kz w:Nat)(d:p cb)(A:Nat):Prop where
 fG:w<=c Q.2.2
 len:c d=Kz
 gp:A<=Kz
 c7:d.take A=(kz Q w).1.1
 b_:∀R∈d,c R.2<=4000000
def wM.next{Q}{u}{d}(D:kH i Q)(e:wM Q u w d A)(v:w<c Q.2.2):
  ∃g,g<A/\gN (λj:cb=>j.1==Q.2.2.getD w 0) (d.take A)=g/\wM Q u (w+1) (kw Q.2.1 d A g).1 (kw Q.2.1 d A g).2:=by
 have k:=D.h7 w;obtain⟨B,l,t,I⟩:=Ml (Q:=Q) (w:=w) e.fG;have r:Q.2.2.drop w=Q.2.2.getD w 0::Q.2.2.drop (w+1):=dD;obtain⟨j,b,s⟩:=k.gv (Q.2.2.getD w 0) (by rw[t,r];simp);rw[<-e.c7]at b;obtain⟨g,n,z⟩:=hl b;rw[List.length_take]at n;have p:g<A:=y;have E:(d.getD g (0,[])).1=Q.2.2.getD w 0:=by rw[<-s,<-z];simp[bK (show g<c d by omega)]
 have x:∀j∈d.take A,j.2≠[]:=λj b=>by rw[e.c7]at b;have:=(k.cq j b).len.1;grind
 obtain⟨k1,ba,C,F⟩:=abA (cv:=Q.2.1) (by rw[e.len];exact e.gp) p (by rw[e.c7];exact k.c_) x E;refine⟨g,p,k1,v,by rw[ba,e.len],fM C e.gp,?_,λj b=>?_⟩
 .rw[F,e.c7];rw[show kz Q (w+1)=jz (kz Q w)from a];unfold jz;rw[t,r,l]
 unfold kw at b;split at b
 .unfold oh at b;simp only[fx,e4]at b;rcases b with b|b|b
  .exact e.b_ j (gV (List.mem_of_mem_eraseIdx b))
  .exact bH
  exact e.b_ j (p8 b)
 rcases AE b with b|b
 .exact e.b_ j b
 rw[b];have o:d.getD g (0,[])∈d:=M;exact fM (kI _ _) (e.b_ _ o)
section
variable {r:aj V}
def IA(d)(i:c d<=4000000):Z r 46 [aB.S d] [] (cD 0 (.S (c d) 1 0 (c d))) [jN (c d) d]:=by
 refine Z.K func46 rfl λj=>?_;refine a0 a v (g.en be a a a a a a λb e=>?_);cases b with
 |true=>
  obtain rfl:=jI (e rfl);refine a0 a v (g.fe 2 3 1 (aB.fn []) a ?_);exact Fl
 |false=>
  refine gR [] 7 a v (g.dK 5 3 1 (aB.fn []) a ?_);refine a0 a ⟨a,a,show(0+c d)*8<=_ by omega⟩ (g.bg [jN (c d) d] a ?_ ?_)
  .simp[bu,cg]
  exact Fy
abbrev HJ(a:dR)(b:Bool):p O:=[.R 2 (.S (c a.1.1) 2 0 (c a.1.1)),.R 3 (.S (c a.1.2.1) 2 0 (c a.1.2.1)),cL a3 a.1.2.2,cL aB (aB.af (c a.2.1) (aB.fn a.2.1)),.R 4 (.S (c a.2.2) 1 0 (c a.2.2))]
abbrev HI(a:dR)(b d e g:Bool):p an:=
 match b,d,e,g with
 |false,_,_,_=>[gn a,.cells 30 mb]
 |true,_,m,_=>[gn a,.cells 30 mb,.h 89 2 (c a.1.1) (a2.fn a.1.1),.h 96 2 (c a.1.2.1) (bk.fn a.1.2.1)]
 |true,_,f,m=>[gn a,.cells 30 mb,.h 89 2 (c a.1.1) (a2.fn a.1.1),.h 96 2 (c a.1.2.1) (bk.fn a.1.2.1),jN (c a.2.2) a.2.2]
 |true,_,f,f=>[gn a,.cells 30 (HJ a f),.h 89 2 (c a.1.1) (a2.fn a.1.1),.h 96 2 (c a.1.2.1) (bk.fn a.1.2.1),jN (c a.2.2) a.2.2]
abbrev aeX(a:dR)(b:Nat):z:=
 [aH 0 0,b' a.1,.q (.agg [.R 2 (.S (c a.1.1) 2 0 (c a.1.1)),.R 3 (.S (c a.1.2.1) 2 0 (c a.1.2.1)),cL a3 a.1.2.2]),aH 0 3,aB.S a.2.1,aB.S (aB.af (c a.2.1) (aB.fn a.2.1)),aH 0 4,aB.S a.2.2,cD 4 (.S (c a.2.2) 1 0 (c a.2.2)),
  .q (.agg (HJ a f)),.any].getD b .any
def XA(b)(j:dQ b.1)(e:c b.2.1<=4000000)(l:c b.2.2<=4000000):Z r 44 [gw b] [] (.q (.agg [.R 0 (.S (c b.1.1) 2 0 (c b.1.1)),cL bk b.1.2.1,cL a3 b.1.2.2,cL aB b.2.1,.R 1 (.S (c b.2.2) 1 0 (c b.2.2))])) [.h 89 2 (c b.1.1) (a2.fn b.1.1),jN (c b.2.2) b.2.2]:=by
 refine Z.bp be func44 rfl rfl rfl λo=>?_
 have x:a9 r [(80,k' [b' b.1] [] (.q (.agg [.R 0 (.S (c b.1.1) 2 0 (c b.1.1)),.R 1 (.S (c b.1.2.1) 2 0 (c b.1.2.1)),.c (.S m 2 (c b.1.2.2) (a3.fn b.1.2.2))])) [.h 89 2 (c b.1.1) (a2.fn b.1.1),.h 96 2 (c b.1.2.1) (bk.fn b.1.2.1)]),
   (46,dm (e3 aB) (λd=>aB.S d) λd=>[c d<=4000000])]:=.cons (l' (pg b.1 j.a1 j.bs j.a4 j.bB j.aN)) (.cons (.bb λd k=>Cl d k) .nil)
 have iw:a9 r [(46,k' [aB.S b.2.2] [] (cD 0 (.S (c b.2.2) 1 0 (c b.2.2))) [jN (c b.2.2) b.2.2])]:=.cons (l' (IA b.2.2 l)) .nil;refine bg x [(1000001,f)] a v ?_;refine g.cx b7 (aeX b) (mF (HI b) 2 5 8 10) a a a a
  ⟨.aY,.aY,cu.ay a a a a a a (eh (bh:=[]) be x (ao:=h _) a E),.aY,.aY,cu.eT a a a a a a (aV.eval (bh:=[]) be x a (by exact⟨aB.U _,by rw[aB.E];exact e⟩)),.aY,.aY,cu.eV a a a a a a (eh (bh:=[]) be iw (ao:=h _) a bH),.aY,
   cu.eW a a a a a a (eh (bh:=[]) be x (ao:=h _) a v),v⟩ ?_
 intro z I;show g r _ _ _ _ _ (HI b (z 2) (z 5) (z 8) (z 10));rw[I 2 cc,I 5 cc,I 8 cc,I 10 cc];refine qT x [] 1 a v (g.bF 3 a a a E E (g.bg [gn b,.cells 30 [.R 2 (.S (c b.1.1) 2 0 (c b.1.1)),cL bk b.1.2.1,cL a3 b.1.2.2,cL aB b.2.1,.R 4 (.S (c b.2.2) 1 0 (c b.2.2))],.h 89 2 (c b.1.1) (a2.fn b.1.1),.x,jN (c b.2.2) b.2.2] a ?_ ?_))
 .simp[aB.E,hF]
 refine g.bj () [2,4] ?_ (λn i=>absurd i E);simp
abbrev t0:an:=.cells 30 mb
abbrev v'(i g:Nat)(d:p eI)(e:p (Int×Int))(b a:p Int):an:=.cells 30 [.R 2 (.S i 2 0 g),cL bk d,cL a3 e,cL aB b,.R 3 (.S (c a) 1 0 (c a))]
abbrev ae6(d:p cb)(g b:Nat)(a:p Int)(e:Nat):z:=
 [aH 4 0,aH 4 0,aH 4 0,aH 4 0,cD 2 (.S (c d) 2 0 g),S b,cD 2 (.bz (c d) 2 (0+(b:Int).toNat) 0),fG (lT d b),
  aH 4 0,aH 4 0,aH 4 3,aB.S a,fG (hH (lT d b) a),aH 6 0,.any].getD e .any
abbrev Lr(j:dR)(d:p cb)(i n:Nat)(e:p eI)(g:p (Int×Int))(b a:p Int)(k l:Bool):p an:=
 match k,l with
 |false,_=>[gn j,t0,qg d,jN (c a) a,v' (c d) i e g b a,.x]
 |true,m=>[gn j,t0,qg d,jN (c a) a,v' (c d) i e g b a,.x,.cells 89 [.c (.int .i64 0),cG]]
 |true,f=>[gn j,t0,qg d,jN (c a) a,v' (c d) i e g b a,.x,Ls d n b]
set_option maxRecDepth 20000 in
def WS(s)(bO)(d)(A e)(dA)(l)(cv b)(u:A<=c d)(w:c d<=4000000)(t:e<A)(E:gN (λk:cb=>k.1==bO) (d.take A)=e)(C:∀k∈d,c k.2<=4000000):
  bl (ι:={i:Nat->p N // bu (c d) i (a2.fn (kw cv d A e).1)}) r 85 [aH 4 0,S bO] [gn s,t0,qg d,jN (c b) b,v' (c d) A dA l cv b] (λ_=>.Q []) (λi=>[gn s,t0,.h 89 2 (c d) i.1,jN (c b) b,v' (c d) (kw cv d A e).2 dA l cv b,.x,Ls d e cv]):=by
 refine bl.bR func85 rfl rfl rfl (g.aW ?_);refine bR [(1000001,f)] a v (g.freeze 3 5 a a a ?_);refine cx a v (g.aF (U8 d A u w 127 [.int .i64 bO] (λk=>k.1==bO) λk _=>Vp k bO) [2] a ?_);rw[E];have n:lT d e=d.getD e (0,[]):=nU;have j:lT d e∈d:=by rw[n];grind
 have x:a9 r [(128,e5 [fG (lT d e),aB.S cv] (fG (hH (lT d e) cv)))]:=.cons (fu (VJ (lT d e) cv (C _ j))) .nil;have cz:0<=(e:Int)/\(e:Int)<((A:Nat):Int):=y;have D:c d=c d/\0+(e:Int).toNat<c d:=⟨rfl,by omega⟩
 refine bR [(1000002,f)] a v ?_;refine g.cx b7 (ae6 d A e cv) (pm (Lr s d A e dA l cv b) 13 14) a a a a
  ⟨.bK,.bK,.bK,.bK,.bK,.bK,.dv be x (cz:=by exact cz),.dv be x (cz:=by exact D),.bK,.bK,.bK,.bK,.dv be x (cz:=by exact a),
   cu.gG a a (eh (bh:=[]) be x (ao:=h _) a v),cu.gH a a (eh (bh:=[]) be x (ao:=h _) a v),v⟩ ?_
 intro z B;show g r _ _ _ _ _ (Lr s d A e dA l cv b (z 13) (z 14));rw[B 13 cc,B 14 cc];unfold kw;by_cases o:(hH (lT d e) cv).2.length=0
 .rw[bs (by rw[<-n];exact o)];refine bR [(29,f)] a ?_ ?_
  .simp only[U,a8,o];exact bw
  exact g.aF (Up d A e u t w) [2] a (cx a v ⟨⟨_,bu.same⟩,.inr a,a,a,_,_,_,a,a,a,v⟩)
 rw[bm (by rw[<-n];exact o)];refine bR [(29,m)] a ?_ ?_
 .simp only[U];exact⟨v,by omega,by omega,by omega,by simpa using o⟩
 refine⟨⟨lu (0+(e:Int).toNat) [.int .i64 (lT d e).1,lr (hH (lT d e) cv)] (a2.fn d),?_⟩,.inr a,a,a,_,_,_,a,a,a,v⟩;have:=a2.cW d e (hH (lT d e) cv) (c d) (bB _);rw[n]at *;rw[show 0+(e:Int).toNat=e by omega];exact this
def Uq(d)(b)(A:c b<=4000000):
  Z r 86 [cD 0 (.S (c (d::b)) 1 0 (c (d::b))),S 0,S 1] [jN (c (d::b)) (d::b)] (cD 0 (.S (c (d::b)) 1 0 (c b))) [jN (c (d::b)) (b++[0])]:=by
 refine Z.K func86 rfl λz=>?_;refine bR [(16,m),(1000006,f)] a E2 ?_;have k:bT (c (d::b)) (h 0)-bT 0 q+(bT (c (d::b)) q-bT 0 (h 1))=c b:=wG;rw[k];refine g.region ?_;refine gR [] 4 a v ?_;refine g.aO (a1.h5 be a a a a a a a a a y bH (by simp<;>omega)) a a ?_;refine g.aO (a1.eX be a a a a a a ?_) a a ?_
 .simp
 refine bR [(1000007,f)] a v (g.gU 0 (aB.fn (b++[0])) a (λ_ _=>rfl) (λw idx e x n t=>?_) ?_)
 .refine⟨n,?_,λ_ j=>j⟩;rw[<-t];congr 1;unfold nR qN;simp[fp]at e;have o:bT (c b+1) (h 0)-bT 0 q=0:=rfl;have l:bT 0 (h 1)=1:=rfl;have p:bT (c b+1) q=c b+1:=rfl;simp only[fp,c9,o,l,p];have s:aB.fn (b++[0]) idx=aB.a8 ((b++[0]).getD idx 0):=rfl;rw[s];by_cases j:idx<c b
  .have i:(b++[0]).getD idx 0=b.getD idx 0:=dD;have u:aB.fn (d::b) (0+1+(idx-0))=aB.a8 (b.getD idx 0):=by rw[show 0+1+(idx-0)=idx+1 by omega];rfl
   rw[bm y,bs y,i,<-u]
  obtain rfl:idx=c b:=y;have i:(b++[0]).getD (c b) 0=0:=E;rw[bs y,i];rfl
 exact PM
end
def zp(b:Int)(a:dR):dR×Bool:=if hh b a=f then(jz a,qA a)else(k2,m)
def XF(i)(k)(o:p4 k)(p:dQ k.1):Z (aj.aV V) 43 [S i,gw k] [] (j4 (zp i k).1 (zp i k).2) []:=by
 refine Z.bp be func43 rfl rfl rfl λR=>?_;have u:a9 (aj.aV V) [(26,xD)]:=.cons EH .nil;have D:=p.a1;have C:=o.fL;unfold zp;cases l:hh i k with
 |false=>
  refine bg u [(10,f)] a ?_ ?_
  .simp only[U,a2.E,a2.U,bk.E,bk.U,a3.E,a3.U,aB.E,aB.U,l,o,bb,a_,is]
  exact OK
 |true=>
 rw[bs a];have J:=tQ.1 l;refine bg u [(10,m)] a ?_ ?_
 .simp only[U,a2.E,a2.U,bk.E,bk.U,a3.E,a3.U,aB.E,aB.U,l,o,bb,a_,gu]
 refine g.aF (XA k p o.fN o.fL) [] a ?_;obtain⟨b,d,K⟩:=k;cases K with
 |nil=>
  have A:(jz (b,d,[]),qA (b,d,[]))=((b,d,[]),m):=rfl;rw[A];refine bR [(17,f)] a E (g.bF 2 a a a E E (g.bF 3 a a a E E (g.cv () [] ?_ fO)));simp[hF]
 |cons e j=>
  have F:wM (b,d,e::j) (c b.1) 0 b.1 (c b.1):=⟨gX _,rfl,bB _,by simp[kz],p.bs⟩
  obtain⟨n,t,M,s⟩:=F.next J E;have x:c j<=4000000:=by have:c j+1<=4000000:=C;omega
  refine bR [(17,m)] a ?_ ?_
  .simp<;>omega
  refine g.cL (WS (b,d,e::j) e b.1 (c b.1) n b.2.1 b.2.2 d (e::j) (bB _) D t M p.bs) a a a a E a ?_;rintro⟨B,z⟩;refine cx a v (g.aF (Uq e j x) [3] a (cx a v ?_));have O:(kw d b.1 (c b.1) n).1.length=c b.1:=s.len;have Q:(kw d b.1 (c b.1) n).2<=c b.1:=s.gp;have I:(jz (b,d,e::j)).1.1=(kw d b.1 (c b.1) n).1.take (kw d b.1 (c b.1) n).2:=s.c7.symm;refine g.bF 2 a a a bw bw (g.bF 3 a a a E E (g.cv () [] ?_ fO));generalize kw d b.1 (c b.1) n=N at *;simp only[U.Z,U,I,bb,a_];and_intros<;>first|exact bu.same|rfl|(simp;omega)|skip
  .intro w r;have:=z w y;simp[hF,this,c1.fn,gB,al,iq,r,dJ]
  intro w r;show aB.a8 ((j++[0]).getD w 0)=aB.a8 (j.getD w 0);simp[List.getElem?_append,r]
def AT{k}{d}{b}(g:∀i,i<b->d.getD i 0<k)(e:b<c d->k<=d.getD b 0):∀a,a<=c d->(fy k d a).2=decide (b<a)
 |0,_=>by simp[fy]
 |a+1,p=>by
  have n:=AT g e a y;rw[w_ y];generalize fy k d a=l at *;unfold gm;by_cases o:b<a
  .grind
  by_cases j:b=a
  .subst j;have:=e y;grind
  have:=g a y;grind
def RU{k}{d}{a}(g:∀j,j<a->d.getD j 0<k)(b:a<c d->k<=d.getD a 0)(i:e<c d):
  (fy k d (e+1)).1=(fy k d e).1++(if e=a then[k]else[])++(if d.getD e 0≠k then[d.getD e 0]else[]):=by
 have o:=AT g b e y;rw[w_ i];generalize fy k d e=n at *;unfold gm;by_cases p:a<e
 .grind
 by_cases l:a=e
 .subst l;have:=b i;grind
 have:=g e y;grind
def aad{k}{d}{a}(e:∀b,b<a->d.getD b 0<k)(g:a<c d->k<=d.getD a 0)(j:a<=c d):eZ d k=(fy k d (c d)).1++(if a=c d then[k]else[]):=by
 have:=AT e g (c d) (bB _);have i:fy k d (c d)=d.foldl (gm k) ([],m):=by unfold fy;rw[c8]
 unfold eZ;rw[<-i];grind
section
variable {r:aj V}
def U2(d)(j)(ah)(i:Int->Bool)(w:∀k,k∈d->Z r j [S k,ax (.O ah)] [] (bj (i k)) []):
  Z r 100 [aB.S d,ax (.fn (.func j) [] [.O ah])] [] (S (gN i d)) []:=by
 refine Z.K func100 rfl λu=>?_;have z:=u.S 0 a;refine a0 a v (g.aL 0 (λb=>b<=c d/\∀e,e<b->i (d.getD e 0)=m) (λb:Nat=>[(0,aB.S d),(1,ax (.fn (.func j) [] [.O ah])),(7,S (c d)),(8,S b)]) (λ_=>[]) (λb=>c d-b) 0 a E a v a ⟨by omega,by omega⟩ ?_);rintro b ⟨s,l⟩;by_cases p:b<c d
 .have t:d.getD b 0∈d:=M;have n:d.getD (b:Int).toNat aB.I=d.getD b 0:=M;refine a7 [(9,f)] a pT ?_;rw[n];refine g.aF (w _ t) [] a ?_;cases x:i (d.getD b 0)with
  |true=>
   refine a7 [(16,f)] a E (g.aX (bW.zero a ?_));simp[tb p x l]
  |false=>
   refine a7 [(16,m)] a oV (g.aB (b+1) a E v ?_ y);grind
 refine a7 [(9,m)] a bV (g.aC ?_);refine a0 a v (g.aw a ?_);simp[tc (o:=d) (I:=0) (λe A=>l e y)]
def V9(A k):Z r 119 [S A,ax (.O [.int .i64 k])] [] (bj (decide (k<=A))) []:=by refine Z.K func119 rfl λb=>?_;exact a0 a v (g.aw a)
abbrev X4(a:p Int)(b:Int)(d:Nat):bJ:=[(0,aB.S a),(3,ax (.O [.int .i64 b])),(5,S d)]
def V_(d)(k)(F:c d<=100000000):Z r 79 [aB.S d,S k] [] (aB.S (eZ d k)) []:=by
 refine Z.K func79 rfl λD=>?_;refine a7 [(1000001,f)] a v (g.freeze 3 0 a a a ?_);refine a0 a v (g.aF (U2 d 119 [.int .i64 k] (λn=>decide (k<=n)) λn _=>V9 n k) [] a ?_);obtain⟨b,A,x,w,I⟩:∃b:Nat,b<=c d/\(∀p,p<b->d.getD p 0<k)/\(b<c d->k<=d.getD b 0)/\gN (λn=>decide (k<=n)) d=if b<c d then(b:Int)else -1:=by
  rcases yt (λn=>decide (k<=n)) d with⟨s,i⟩|⟨e,l,s,i,ab⟩
  .refine⟨c d,bB _,λp B=>?_,λi=>absurd i (w0 _),by rw[s,bm (w0 _)]⟩;have:=i (d.getD p 0) M;simp at this;grind
  refine⟨e,by omega,λp B=>?_,λ_=>?_,by rw[s,bs l]⟩
  .have:=i (d.getD p 0) (by grind[List.mem_take_iff_getElem]);simp at this;grind
  grind
 rw[I];apply g.cj (X4 d k b) [.x]
 .intro dy;by_cases u:b<c d
  .rw[bs u];exact a7 [(13,m),(1000004,f)] a E kE
  rw[bm u];obtain rfl:b=c d:=y;exact a7 [(13,f),(1000004,f)] a E kE
 refine a7 [(1000005,f)] a v (g.bO 6 3 1 a a ?_);refine a0 a v ?_;refine g.aL 2 (λe=>e<=c d) (λe:Nat=>[(0,aB.S d),(3,ax (.O [.int .i64 k])),(5,S b),(6,.q (.aq (.r 1 1 (fy k d e).1.length (aB.fn (fy k d e).1)))),(16,aB.S d),(17,S (c d)),(18,S e)])
  (λe=>[.x,.r 3 1 (fy k d e).1.length (aB.fn (fy k d e).1)]) (λe=>c d-e) 0 a ?_ a ?_ a y ?_
 .simp[fy]
 .simp[fy]
 intro e l;have C:=w9 k d e l;by_cases i:e<c d
 .have j:=RU x w i;have ae:d.getD (e:Int).toNat aB.I=d.getD e 0:=rfl;generalize fy k d e=o at *;have J:c o.1<=e+1:=y;generalize d.getD e 0=t at *;by_cases g7:e=b<;>by_cases iK:t=k
  .rw[bs g7,bm z_,h5]at j;have I:=aB.a0 o.1 k;refine bR [(19,f),(25,f),(32,m)] a zO (g.aB (e+1) a ?_ ?_ i y)
   .rw[j];simp;exact I
   rw[j];simp;exact I
  .rw[bs g7,bs z_]at j;have I:=aB.e2 o.1 k t;refine bR [(19,f),(25,f),(32,f)] a zO (g.aB (e+1) a zN ?_ i y);exact zN
  .rw[bm g7,bm z_,h5,h5]at j;refine bR [(19,f),(25,m),(32,m)] a zO (g.aB (e+1) a ?_ ?_ i y)
   .rw[j];simp
   rw[j];simp
  rw[bm g7,bs z_,h5]at j;have I:=aB.a0 o.1 t;refine bR [(19,f),(25,m),(32,f)] a zO (g.aB (e+1) a zN ?_ i y);exact zN
 obtain rfl:e=c d:=y;have z:=aad x w A;rw[z];generalize fy k d (c d)=o at *;refine bR [(19,m)] a E (g.aC ?_);by_cases g7:b=c d
 .rw[bs g7];have I:=aB.a0 o.1 k;refine bR [(41,f)] a O3 (g.aw a ?_);simp;exact I
 rw[bm g7,h5];refine bR [(41,m)] a O3 (g.aw a ?_);simp
end
def KG{i}{d}:∀(a b:p bD),b.Nodup->(a.foldl (e1 i d) b).Nodup
 |[],b,e=>e
 |g::a,b,e=>by rw[iI];refine KG a _ ?_;unfold e1;grind
def Ei(i)(o)(d):(fS i o d).Nodup:=KG _ _ List.nodup_nil
theorem DU{d}{l X}:X∈fC d l↔X=l∨X∈d:=by
 induction d with
 |nil=>simp[fC]
 |cons b e a=>simp[fC];split<;>simp[a,or_left_comm,or_assoc]
def abI{d}{l}(g:d.Pairwise λa b=>a.1<b.1)(e:∀i∈d,i.1≠l.1):(fC d l).Pairwise λa b=>a.1<b.1:=by
 induction d with
 |nil=>simp[fC]
 |cons a p j=>
  obtain⟨o,n⟩:=iF.1 g;have k:=e a ir;simp[fC];grind[List.pairwise_cons,DU]
def Ds:∀(d e:p cY),e.Pairwise (λa b=>a.1<b.1)->d.Pairwise (λa b=>a.1≠b.1)->(∀a∈d,∀b∈e,b.1≠a.1)->(d.foldl fC e).Pairwise λa b=>a.1<b.1
 |[],_,g,_,_=>g
 |a::d,e,g,i,j=>by obtain⟨d1,d2⟩:=iF.1 i;refine Ds d _ (abI g (j a ir)) d2 λn l b k=>?_;grind[DU]
theorem yG(i)(cT):h' i cT=(cT.map (gy i)).foldl fC []:=by unfold h';rw[List.foldl_map];rfl
theorem Dv{a:p bD}(b:cF i=f)(d:∀n∈a,cC n=f)(g:a.Nodup):(a.map (gy i)).Pairwise λo r=>o.1≠r.1:=by rw[rp];refine List.Pairwise.imp_of_mem (λ{x j} k l s e=>s ?_) g;exact yI b (d x k) (d j l) e
theorem K0{bO}{cT}(a:cF i=f)(j:∀b∈cT,cC b=f)(x:cT.Nodup)(s:c cT<=4):tu bO i cT=jY bO i cT:=by
 show(bO,l_ (cT.map (gy i)))=(bO,h' i cT)
 grind[abH,Dv,yG]
theorem DK{bO}{cT}(b:cF i=f)(j:∀l∈cT,cC l=f)(e:cT.Nodup)(p:1<=c cT)(o:c cT<=4):ib i (jY bO i cT)=decide (1<=bO/\bO<=99):=by
 have s:c (h' i cT)=c cT:=Dt i cT;rw[o9,yT,bA];constructor
 .exact λd=>d.c5
 intro d;refine⟨d,b,by show 1<=c (h' i cT)/\_;rw[show(jY bO i cT).2=h' i cT from a];omega,λn g=>?_,?_⟩
 .obtain⟨k,x,rfl⟩:=aaL (show n∈h' i cT from g);have:=abl (j k x);simp[right,this]
 show (h' i cT).Pairwise _;rw[yG];exact Ds _ _ List.Pairwise.nil (Dv b j e) E
def yU(i):∀e a(b:p bD),c b<=e->f' i e a b=(aC ((c b+3) / 4)).map λd:Nat=>jY (a+d) i (gL b d)
 |0,a,b,k=>by have:c b=0:=y;exact bH
 |e+1,a,b,k=>by
  simp[f'];by_cases g:0<c b
  .rw[bs g,yU i e (a+1) (b.drop 4) M];have j:(c b+3) / 4=(c (b.drop 4)+3) / 4+1:=M;rw[j,wU,mq,List.map_map];congr 1
   .simp[gL]
   refine rv λd _=>?_;show jY (a+1+(d:Nat)) i (((b.drop 4).drop (4*d)).take 4)=jY (a+((d+1:Nat):Int)) i ((b.drop (4*(d+1))).take 4);grind[List.drop_drop]
  grind
def BQ{d}(e:∀a∈d,cC a=f)(b:d.Nodup)(i:w<(c d+3) / 4):(∀a∈gL d w,cC a=f)/\(gL d w).Nodup/\1<=c (gL d w)/\c (gL d w)<=4:=
 ⟨λa g=>e a (p8 (gV g)),(b.sublist (List.drop_sublist _ _)).sublist (List.take_sublist _ _),by simp[gL];omega,by simp[gL];omega⟩
def JI{b}{d}(o:cF i=f)(e:∀p∈d,cC p=f)(a:d.Nodup)(g:w<(c d+3) / 4):nv i b d w=(decide (1<=di b+(w:Int)/\di b+(w:Int)<=99)&&!(c b.1+w==20)):=by obtain⟨j,k,l,n⟩:=BQ e a g;unfold nv l7;grind[K0,DK]
def aaF{b}{a:p bD}(d:cF i=f)(r:∀v∈a,cC v=f)(o:a.Nodup)(u:∀e,e<(c a+3) / 4->nv i b a e=f):jw i b a ((c a+3) / 4)=f' i (c a) (di b) a:=by
 rw[yU i _ _ _ (bB _)];refine rv λe g=>?_;have g:=rq.1 g;obtain⟨j,k,n,l⟩:=BQ r o g;have t:=u e g;have s:ib i (jY (di b+(e:Int)) i (gL a e))=f:=by rw[DK d j k n l];rw[JI d r o g]at t;grind
 unfold l7;rw[K0 d j k l,bs s]
def jF.hQ{i}{b}(d:jF i b):1<=di b/\di b<=100:=by
 unfold R1.di;split
 .omega
 rename_i a;have:=(d.cq _ (C0 a (0,[]))).c5;omega
def aaa(i)(b)(a)(o):qF i b a o=El i b a o:=by
 unfold qF El;by_cases j:h0 i b=f/\(a=1∨a=2)/\dP o=f
 .rw[bs j,bs ⟨j.1,by omega,j.2.2⟩];have g:=tO.1 j.1;have z:=g.hQ;have K:c b.2.2<=9:=by have:=g.ec;simp[g1,cp,bA]at this;omega
  have I:=g.len;have x:=(qW (i:=i) (d:=eA b.1) (oS j.2.2)).1;have t:=Ei i o (eA b.1);have s:c (ku i b o)=(c (fS i o (eA b.1))+3) / 4:=by unfold ku;rw[yU _ _ _ _ (bB _)];simp
  have B:ku i b o=f' i (c (fS i o (eA b.1))) (di b) (fS i o (eA b.1)):=rfl;unfold pF;simp only;generalize fS i o (eA b.1)=d at *;obtain⟨N,E,O,D⟩:=Es (nv i b d) ((c d+3) / 4) 0;generalize mZ (nv i b d) ((c d+3) / 4) 0=n at *;have C:∀e,e<(c d+3) / 4->nv i b d e=(decide (1<=di b+(e:Int)/\di b+(e:Int)<=99)&&!(c b.1+e==20)):=λe l=>JI g.key x t l;by_cases p:n<(c d+3) / 4
  .rw[bs p];have v:=D y;rw[C n p]at v;have k:fs i b o=f:=by simp[fs,jK,bA,s];simp[AA,dr,AB,gW]at v;omega
   grind
  rw[bm p];obtain rfl:n=(c d+3) / 4:=y;have r:∀e,e<(c d+3) / 4->1<=di b+(e:Int)/\di b+(e:Int)<=99/\c b.1+e≠20:=λe l=>by grind
  have J:c b.1+(c d+3) / 4<=20:=by refine Nat.le_of_not_lt λF=>?_;exact(r (20-c b.1) y).2.2 y
  have M:di b+(((c d+3) / 4:Nat):Int)-1<=99:=by
   rcases n9 ((c d+3) / 4)with A|A
   .grind
   have:=(r ((c d+3) / 4-1) y).2.1;omega
  by_cases w:20<dv b
  .rw[bs w];have k:fs i b o=f:=NB;grind
  rw[bm w];by_cases u:c b.2.2=9
  .rw[bs u];have k:fs i b o=f:=NB;grind
  rw[bm u];have k:fs i b o=m:=by simp[fs,wX,dr,s];omega
  rw[k];simp only[ft,B,aaF g.key x t λe l=>O e (gX _) l,is];rfl
 grind
theorem LA{d}{l X}(a:X∈eb d l):X=l∨X∈d:=by
 induction d with
 |nil=>simpa[eb]using a
 |cons b g e=>
  simp only[eb]at a;grind
def abM{d}{l}(i:d.Pairwise λa b=>a.1<b.1):(eb d l).Pairwise λa b=>a.1<b.1:=by
 induction d with
 |nil=>simp[eb]
 |cons a n e=>
  obtain⟨k,g⟩:=iF.1 i;simp only[eb];split
  .rename_i s;refine iF.2 ⟨λo j=>?_,e g⟩;grind[LA]
  grind[List.pairwise_cons]
def CZ:∀(d a:p fd),(∀b∈d,fU b=f)->(∀b∈a,fU b=f)->a.Pairwise (λa e=>a.1<e.1)->(∀b∈d.foldl eb a,fU b=f)/\(d.foldl eb a).Pairwise λa e=>a.1<e.1
 |[],a,_,i,g=>⟨i,g⟩
 |b::d,a,l,i,g=>CZ d (eb a b) (λk j=>l k (mt _ j)) (λk j=>by grind[LA]) (abM g)
theorem aa2{d}(g:∀k∈d,fU k=f)(l:d.Pairwise λb e=>b.1<e.1):kV d (c d)=f:=by
 refine fN.2 λj i=>?_;rw[cp];refine⟨g _ M,?_⟩;rcases n9 j with a|a
 .simp[a]
 rw[jK];exact Fs
def aac(a:p cb):kV (eA a) (c (eA a))=f:=by
 unfold eA;split
 .rename_i b;obtain⟨d,e⟩:=CZ (dH a) [] (aZ.1 b) E List.Pairwise.nil;grind[aa2]
 rfl
def acZ{d}(a:∀k∈d,c k.2<=4):c (dH d)<=4*c d:=by
 induction d with
 |nil=>simp[dH]
 |cons i n e=>
  have b:=e λj g=>a j (mt _ g);have l:=a i ir;simp only[dH,sx,dk,kK,fp]at b⊢;omega
def jF.h6{i}{b}(e:jF i b)(a:ml b):1<=dv b:=by have d:=s_ b.2.2 a.aN;unfold R1.dv;split<;>omega
def jF.cP{b}(a:jF i b)(d:ml b):F7 i b:=by refine⟨a.key,?_,aac _,a.ec,a.h6 d⟩;have:=acZ λg e=>(a.cq g e).len.2;have:=a.len;omega
def acV{b}{a}{o}(d:h0 i b=f)(e:1<=a/\a<=2)(g:dP o=f):El i b a o=(if fs i b o=f then b else ft i b a o,!fs i b o):=bs ⟨d,e,g⟩
def KF{i}{d}:∀(b e:p bD)a,a∈b.foldl (e1 i d) e↔a∈e∨(a∈b/\iT d (d8 i a)=0)
 |[],e,a=>by simp
 |n::b,e,a=>by
  rw[iI,KF b];unfold e1;split
  .rename_i j;simp[cp,gW]at j;grind
  rename_i j;simp only[cp,gW,jJ]at j;by_cases l:a=n
  .subst l;by_cases g:iT d (d8 i a)=0
   .have:e.contains a=f:=by
     cases k:e.contains a with
     |true=>rfl
     |false=>exact absurd ⟨g,k⟩ j
    have:a∈e:=by simpa using this
    grind
   grind
  grind
def zj{o}{b:p fd}{a}:a∈fS i o b↔(∃d∈o,a∈cl d.2)/\iT b (d8 i a)=0:=by unfold fS;rw[KF];simp
def abN{d}{l}{k}:(∃b∈eb d l,b.1=k)↔k=l.1∨∃b∈d,b.1=k:=by
 induction d with
 |nil=>simp[eb,eq_comm]
 |cons i n g=>
  simp only[eb];split
  .simp only[e4,exists_eq_or_imp,g];grind
  constructor
  .rintro⟨b,j,rfl⟩;rcases e4.1 j with rfl|j
   .omega
   exact .inr ⟨b,(ji.1 j).1,a⟩
  rintro(rfl|⟨b,j,rfl⟩)
  .exact⟨l,ir,a⟩
  by_cases e:b.1=l.1
  .exact⟨l,ir,e.symm⟩
  exact⟨b,mt _ (ji.2 ⟨j,by simpa using e⟩),a⟩
def Jw:∀(e d:p fd) a,(∃b∈e.foldl eb d,b.1=a)↔(∃b∈e,b.1=a)∨∃b∈d,b.1=a
 |[],d,a=>by simp
 |g::e,d,a=>by rw[iI,Jw e,abN];grind
def ab8{l}(b:right i l=f):∃d,cC d=f/\l.1=d8 i d:=by
 unfold right at b;split at b
 .rename_i d a;unfold hI at a;split at a
  .rename_i j;cases a;simp[cp]at j;exact⟨_,j.1,(by simpa using b:d8 i _=l.1).symm⟩
  cases a
 cases b
def ac0{Y}(e:∀a∈Y,n3 i a):(dH Y).all fU=f:=by refine aZ.2 λp b=>?_;obtain⟨a,d,b⟩:=rr.1 b;obtain⟨k,g,rfl⟩:=ho.1 b;obtain⟨o,n,j⟩:=ab8 ((e a d).gF k g);have l:=(e a d).c5;simp[fU,cp,bA,j,d8];omega
def J8{e:p cb}(w:∀n∈e,n3 i n)(g:Int):iT (eA e) g=0↔g∉ct e:=by
 have u:=ac0 w;unfold eA;rw[bs u];have k:=Jw (dH e) [] g;have t:(∃s∈dH e,s.1=g)↔g∈ct e:=by
  simp only[dH,ct,rr,ho];constructor
  .rintro⟨_,⟨n,o,l,r,rfl⟩,rfl⟩;exact⟨n,o,l,r,a⟩
  rintro⟨n,o,l,r,rfl⟩;exact⟨_,⟨n,o,l,r,a⟩,a⟩
 have x:=(CZ (dH e) [] (aZ.1 u) E List.Pairwise.nil).1;generalize(dH e).foldl eb []=d at *;unfold iT;split
 .rename_i b j;have z:=x b (wT j);have A:b.1=g:=NN;have:g∈ct e:=by rw[<-t];have:=k.1 ⟨b,wT j,A⟩;simpa using this
  simp[fU,cp,bA]at z;grind
 rename_i j;have B:=List.find?_eq_none.1 j;refine⟨λ_ v=>?_,λ_=>rfl⟩;obtain⟨s,y,ai⟩:=k.2 (.inl (t.2 v));exact B s y afj
def Du{cT}{l}:l∈h' i cT↔∃b∈cT,l=gy i b:=by
 rw[yG];have:∀(a x:p cY),l∈a.foldl fC x↔l∈a∨l∈x:=by
  intro a;induction a with
  |nil=>simp
  |cons d a j=>intro x;rw[iI,j,DU];grind
 rw[this];grind
def yV{i}{k}:∀g d(b:p bD),c b<=g->(k∈ct (f' i g d b)↔∃e∈b,d8 i e=k)
 |0,d,b,r=>by have:b=[]:=List.length_eq_zero_iff.1 y;subst this;simp[f',ct]
 |g+1,d,b,r=>by
  simp[f'];split
  .have j:=yV (i:=i) (k:=k) g (d+1) (b.drop 4) bV;have o:ct (jY d i (b.take 4)::f' i g (d+1) (b.drop 4))=(h' i (b.take 4)).map (·.1)++ct (f' i g (d+1) (b.drop 4)):=bH;rw[o,fx,j];have:(k∈(h' i (b.take 4)).map (·.1))↔∃e∈b.take 4,d8 i e=k:=by
    rw[ho];constructor
    .rintro⟨l,s,rfl⟩;obtain⟨e,n,rfl⟩:=Du.1 s;exact⟨e,n,a⟩
    rintro⟨e,n,rfl⟩;exact⟨gy i e,Du.2 ⟨e,n,a⟩,a⟩
   rw[this];conv=>rhs;rw[<-uH 4 b]
   grind
  have:b=[]:=List.length_eq_zero_iff.1 y;subst this;simp[ct]
def K5{i}(k:cF i=f):∀j b(d:p bD),c d<=j->(∀e∈d,cC e=f)->d.Nodup->(ct (f' i j b d)).Nodup
 |0,b,d,s,_,_=>by simp[f',ct]
 |j+1,b,d,s,o,n=>by
  simp[f'];split
  .have g:ct (jY b i (d.take 4)::f' i j (b+1) (d.drop 4))=(h' i (d.take 4)).map (·.1)++ct (f' i j (b+1) (d.drop 4)):=bH;have u:(h' i (d.take 4)).Pairwise λt z=>t.1<z.1:=by rw[yG];exact Ds _ _ List.Pairwise.nil (Dv k (λe l=>o e (gV l)) (n.sublist (List.take_sublist _ _))) E
   rw[g,List.nodup_append];refine⟨rp.2 (u.imp λs=>by omega),K5 k j _ _ bV (λe l=>o e (p8 l)) (n.sublist (List.drop_sublist _ _)),λA w B v g=>?_⟩;subst g;obtain⟨t,x,rfl⟩:=ho.1 w;obtain⟨y,r,rfl⟩:=Du.1 x;obtain⟨e,l,g⟩:=(yV j _ _ bV).1 v;have g:=yI k (o e (p8 l)) (o y (gV r)) g;subst g;rw[<-uH 4 d,List.nodup_append]at n;exact n.2.2 e r e l a
  exact bH
def abt(o):(cl o).flatten=o:=by
 have:∀b a,a<=c o->c o-a<=b->(iA o b a).flatten=o.drop a:=by
  intro b;induction b with
  |zero=>intro a g e;simp[iA,Gc (show c o<=a by omega)]
  |succ b d=>
   intro a g e;simp[iA];split
   .rename_i j;obtain⟨k,i,_⟩:=rJ o a j;rw[List.flatten_cons,d _ i y];conv=>rhs;rw[<-uH (en o a-a) (o.drop a),List.drop_drop,show a+(en o a-a)=en o a by omega]
   exact bw
 exact(this (c o) 0 (gX _) y).trans E
def acQ{bO}{Y}{o}(g:cF i=f)(k:dP o=f)(r:∀a∈o,∀d∈cl a.2,df i Y (d8 i d)=h d):ev i (fT bO i o) Y=h o:=by
 have e:=(zA.1 k).1;have n:∀a∈o,fH i Y (kS i a)=h a:=λa b=>by
  have p:=r a b;have x:g0 i Y (kS i a).2=h (cl a.2):=by
   unfold g0 kS;rw[bs]
   .congr 1;rw[List.map_map];conv=>rhs;rw[<-List.map_id (cl a.2)]
    exact rv λd j=>by simp[p d j]
   refine aZ.2 λw u=>?_;obtain⟨d,j,rfl⟩:=ho.1 u;exact bH
  have v:iN (cl a.2)=h a.2:=by unfold iN;rw[abt,(e a b).2];simp
  unfold fH;exact bH
 have t:fh i Y (o.map (kS i))=o:=by
  unfold fh;rw[List.map_map];conv=>rhs;rw[<-List.map_id o]
  exact rv λa b=>by simp[n a b]
 have s:((o.map (kS i)).all λl=>(fH i Y l).isSome)=f:=aZ.2 λl e=>by obtain⟨a,b,rfl⟩:=ho.1 e;exact bH
 unfold ev fT;simp[t,s,g,k,Bool.and_self,dJ]
structure j'(i:Int)(b:cB)(bU:Int)(o:p c6):Prop where
 a9:jF i b
 jJ:ml b
 iF:1<=bU/\bU<=2
 fW:dP o=f
 hj:fs i b o=m
section
variable {b:cB}{bU:Int}{o:p c6}
def j'.jQ(l:j' i b bU o){e}(k:e∈o){g}(j:g∈cl e.2):cC g=f:=by have:=(qW (i:=i) (d:=[]) (oS l.fW)).1 g;exact this (zj.2 ⟨⟨e,k,j⟩,a⟩)
def j'.hG(r:j' i b bU o)(n:Int):n∈ct (ft i b bU o).1↔n∈ct b.1∨∃g∈o,∃d∈cl g.2,d8 i d=n:=by
 have p:ct (ft i b bU o).1=ct b.1++ct (ku i b o):=by simp[ft,ct]
 rw[p,fx];unfold ku;rw[yV _ _ _ (bB _)];constructor
 .rintro(j|⟨d,e,rfl⟩)
  .exact .inl j
  obtain⟨⟨g,k,e⟩,_⟩:=zj.1 e;exact .inr ⟨g,k,d,e,a⟩
 rintro(j|⟨g,k,d,e,rfl⟩)
 .simp_all
 by_cases l:d8 i d∈ct b.1
 .simp_all
 exact .inr ⟨d,zj.2 ⟨⟨g,k,e⟩,(J8 r.a9.cq _).2 l⟩,a⟩
def j'.new(g:j' i b bU o):(∀e∈ku i b o,n3 i e)/\(ku i b o).Pairwise (λe x=>e.1<x.1)/\∀e∈ku i b o,di b<=e.1:=by
 have u:=qW (i:=i) (d:=eA b.1) (oS g.fW);have v:=Ei i o (eA b.1);have r:=g.hj;have z:=g.a9.hQ;unfold fs at r;unfold ku at *;generalize fS i o (eA b.1)=d at *;rw[yU i _ _ _ (bB _)]at *;simp[wX,dr,kK,List.length_range]at r;refine⟨λe p=>?_,?_,λe p=>?_⟩
 .obtain⟨w,a,rfl⟩:=ho.1 p;have a:=rq.1 a;obtain⟨j,k,l,n⟩:=BQ u.1 v a;rw[<-yT,DK g.a9.key j k l n,bA];omega
 .rw[rp];refine List.pairwise_lt_range.imp λ{s t} y=>?_;show di b+(s:Int)<di b+(t:Int);omega
 obtain⟨w,a,rfl⟩:=ho.1 p;show di b<=di b+(w:Int);omega
def jF.jO(j:jF i b):∀e∈b.1,e.1<R1.di b:=by
 intro e g;obtain⟨d,a,rfl⟩:=hl g;unfold R1.di;rw[bm y,s8 y];by_cases k:d=c b.1-1
 .exact bH
 have:=nb.1 j.c_ d (c b.1-1) a y y;omega
def jF.ki(j:jF i b):∀e∈b.2.1,e.1<R1.dv b:=by
 intro e g;obtain⟨d,a,rfl⟩:=hl g;unfold R1.dv;rw[bm y,s8 y];by_cases k:d=c b.2.1-1
 .exact bH
 have:=nb.1 j.cI d (c b.2.1-1) a y y;omega
def j'.ez(e:j' i b bU o):∀d∈(ft i b bU o).1,n3 i d:=λd a=>by
 rcases fx.1 a with a|a
 .exact e.a9.cq d a
 exact e.new.1 d a
def j'.ko(a:j' i b bU o){bO}:ev i (fT bO i o) (ft i b bU o).1=h o:=by refine acQ a.a9.key a.fW λl e n d=>?_;obtain⟨p,g⟩:=Jn a.a9.key a.ez ((a.hG _).2 (.inr ⟨l,e,n,d,rfl⟩));obtain⟨j,k,_⟩:=CK g;rw[g,yI a.a9.key j (a.jQ e d) k]
def j'.old(a:j' i b bU o){l}{g}(j:ev i l b.1=h g):ev i l (ft i b bU o).1=h g:=
 acR (λe k=>Yd a.a9.key a.ez (λe d=>(a.hG e).2 (.inl d))) j
def j'.ok(a:j' i b bU o):jF i (ft i b bU o):=by
 have x:=a.hj;simp[fs,wX,dr]at x;have n:=a.new;have w:=a.a9.ki;have v:=a.a9.h6 a.jJ;refine⟨a.ez,?_,?_,λB g=>?_,?_,a.a9.key,?_,by simp[ft,dk];omega⟩
 .refine nd.2 ⟨a.a9.c_,n.2.1,λp k r e=>?_⟩;have:=a.a9.jO p k;have:=n.2.2 r e;omega
 .have j:ct (ft i b bU o).1=ct b.1++ct (ku i b o):=by simp[ft,ct]
  have u:=qW (i:=i) (d:=eA b.1) (oS a.fW);rw[j,List.nodup_append];refine⟨a.a9.ax,K5 a.a9.key _ _ _ (bB _) u.1 (Ei _ _ _),λp k r e j=>?_⟩;subst j;obtain⟨C,z,rfl⟩:=(yV _ _ _ (bB _)).1 e;exact(J8 a.a9.cq _).1 (zj.1 z).2 k
 .rcases fx.1 g with g|g
  .obtain⟨cS,dq⟩:=a.a9.a4 B g;obtain⟨D,A⟩:=Az.1 dq;exact⟨cS,by rw[a.old A];rfl⟩
  rw[gH]at g;subst g;exact⟨⟨v,by show dv b<=20;omega⟩,by rw[a.ko];rfl⟩
 .refine nd.2 ⟨a.a9.cI,by simp,λp k r e=>?_⟩;rw[gH]at e;subst e;exact w p k
 have l:=a.a9.ec;have e:=a.iF;simp only[g1,cp,bA,fN]at l⊢;refine⟨λt s=>?_,by simp only[ft,dk,gG];omega⟩;simp only[ft,dk,gG]at s⊢;by_cases j:t<c b.2.2
 .have:=l.1 t j
  rwa [al,kb j,<-al]
 obtain rfl:t=c b.2.2:=y;rw[al,hn (bB _),sE];simp only[mr,h4,hs,cp,bA];omega
end
section
variable {r:aj V}[r.cb]
abbrev pQ(a:jf):an:=.cells 35 (gT 7 a.1 a.2.1 2)
abbrev Ci(a:Nat):={b:gF×Nat // Aj a b}
def Ni(e:Nat)(d:Nat->Int)(i)(a:jf)(j:Option (Ci i))(d3 iO g:Bool):p an:=
 match j with
 |none=>match iO with
  |false=>[ei e d i,fX]++hc a++[pQ a]
  |true=>[ei e d i,fX]++hc a++[pQ a,fX]
 |some b=>match d3,iO,g with
  |false,m,_=>[ei e d b.1.2,fX]++hc a++[pQ a]
  |false,f,_=>[ei e d b.1.2,fX]++hc a++[pQ a,fX]
  |true,m,_=>[ei e d b.1.2,fX]++hc (cj 7 a b.1.1).1++[pQ a]
  |true,f,m=>[ei e d b.1.2,fX]++hc (cj 7 a b.1.1).1++[pQ a,fX]
  |true,f,f=>[ei e d b.1.2,fX]++hc (cj 7 a b.1.1).1++[pQ a,pQ (cj 7 a b.1.1).1]
abbrev Cb(a:jf):z:=.q (.agg (gT 7 a.1 a.2.1 2))
def aeV(i)(a:jf)(e:Option (Ci i))(d:Nat):z:=
 match e with
 |none=>[Cb a,aH 0 0,.any,.any,.any,.any,.any,aH 5 0,.any,.any].getD d .any
 |some b=>[Cb a,aH 0 0,lQ b.1.1,.Q [.agg (gT 7 (cj 7 a b.1.1).1.1 (cj 7 a b.1.1).1.2.1 2),.aq (.c (.bool (cj 7 a b.1.1).2))],.Q [.agg (gT 7 (cj 7 a b.1.1).1.1 (cj 7 a b.1.1).1.2.1 2),.aq (.c (.bool (cj 7 a b.1.1).2))],
   Cb (cj 7 a b.1.1).1,bj (cj 7 a b.1.1).2,aH 5 0,.any,bj (cj 7 a b.1.1).2].getD d .any
abbrev D9:jf:=(k2,nQ,Dc,CJ)
def fY.zero:fY 0 D9:=⟨fe.nil,rfl,rfl⟩
def Yg:∀a,a<1->([0,5,6,7]:p Nat)[a]?=h a:=λa b=>by grind
def ga(a:p gF):jf:=a.foldl (λd b=>(cj 7 d b).1) D9
def Ll(T)(a):ga (T++[a])=(cj 7 (ga T) a).1:=by unfold ga;grind
def Lk:∀b a,fY (c a) (ga a)->fY (c (a++b)) (ga (a++b))
 |[],a,e=>by grind
 |d::b,a,e=>by
  have g:fY (c (a++[d])) (ga (a++[d])):=by rw[Ll,dk];exact e.do
  have:=Lk b (a++[d]) g;grind
def vR(T):fY (c T) (ga T):=Lk T [] fY.zero
def k0(b:Int)(a:jf):fo:=
 if b=0 then(7,a.1,a.2.1,a.2.2.1,[0])else if b=1 then(7,a.1,a.2.1,a.2.2.1.set 0 (10,(a.2.2.1.getD 0 (0,0)).2),a.2.2.2)else(7,a.1,a.2.1,a.2.2.1,a.2.2.2)
structure nX(i:Nat) where
 dM:p gF
 v:Int
 k1:Nat
 gq:c dM<=8
 ht:i<=k1
 gk:k1<=i+4002
abbrev nX.a{i}(a:nX i):fo:=k0 a.v (ga a.dM)
def acY{ab}{T}(g:c T<=8):p5 (k0 ab (ga T)).2.1/\(k0 ab (ga T)).2.2.2.1.length<=2/\(k0 ab (ga T)).2.2.2.2.length<=2:=by have a:=vR T;have e:=a.a.b_ y;have b:=a.bl;have d:=a.b7;unfold k0;grind
set_option maxRecDepth 20000 in
def XX(A)(j:Nat->Int)(G:Bytes j)(i)(ah:i<=30000)(B:A<=1048576):
  bl (ι:=nX i) r 11 [aH 0 0] [ei A j i] (λbd=>.q (.agg (zG bd.a 1 2))) (λbd=>[ei A j bd.k1,hU bd.a.2.1]++B' bd.a.2.2.2.1 bd.a.2.2.2.2):=by
 refine bl.bG be func11 rfl rfl rfl λau=>?_;refine a0 a v (g.aF (X0 7 cc) [] a (a0 a v (g.a' (hP A j G i 9 y B y) [0] a bp ?_)));rintro⟨ai,aq,ar⟩;refine a0 a v ?_;refine g.aL 5 (λbd:Nat×p gF×Nat=>bd.1+c bd.2.1<=8/\i<=bd.2.2/\bd.2.2<=i+1+500*c bd.2.1) (λbd=>[(0,aH 0 0),(2,aH 1 0),(3,aH 4 0),(5,S bd.1)])
  (λbd=>[ei A j bd.2.2,fX]++hc (ga bd.2.1)++[pQ (ga bd.2.1)]) (λbd=>bd.1) (ai.toNat,[],i+1) a ?_ a ?_ a ⟨by grind,by grind,by grind⟩ ?_
 .exact z1
 .have n:ga []=D9:=rfl;simp[n]
 rintro⟨V,b,k1⟩ ⟨aN,P,ae⟩;simp only at aN P ae;have K:=vR b;have F:=Ll b;have J:∀k,p5 (k0 k (ga b)).2.1/\(k0 k (ga b)).2.2.2.1.length<=2/\(k0 k (ga b)).2.2.2.2.length<=2:=λk=>acY y;have C:∀k k1,i<=k1->k1<=i+4002->∃bd:nX i,bd.a=k0 k (ga b)/\bd.k1=k1:=λk k1 x j=>⟨⟨b,k,k1,by omega,x,j⟩,rfl,rfl⟩
 by_cases aw:0<V
 .refine a7 [(15,f),(1000005,f)] a NU ?_;generalize av:ga b=l at *;refine g.hf b7 (aeV k1 l) (mo (Ni A j k1 l) 3 7 8) (mh (Ci k1) 2) q a a a a a
   ⟨.fQ,
   .fQ,
   eC.iV a a a a a (λw bd=>by
    match bd with
    |0=>exact .inr (.inr rfl)
    |1=>exact .inr (.inr rfl)
    |2=>grind
    |3=>exact .inr (.inl rfl)
    |4=>exact .inr (.inl rfl)
    |5=>exact .inr (.inl rfl)
    |6=>exact .inr (.inl rfl)
    |7=>exact .inr (.inr rfl)
    |8=>exact .inr (.inr rfl)
    |9=>exact .inr (.inl rfl)
    |bd+10=>exact .inr (.inr rfl)) (λx=>by cases x<;>exact dB.dm (IL A j G k1 y B) [0] rfl rfl rfl rfl rfl rfl rfl bp rfl bp),
   eC.g5 a a a a a (λw x=>by
    have ab:a9 r [(13,k' [Cc 7 l,lQ w.1.1] (hc l) (EJ 7 (cj 7 l w.1.1).1 (cj 7 l w.1.1).2) (hc (cj 7 l w.1.1).1))]:=.cons (l' (IK 7 l w.1.1 (c b) K y)) .nil
    cases x<;>exact eh (bh:=[]) be ab (ao:=h _) rfl ⟨rfl,rfl⟩),
   .dV,
   .dV,
   .dV,
   eC.g6 rfl rfl rfl rfl (λt x=>by rcases t with _|bd<;>cases x<;>exact eh (bh:=[]) be a9.nil (ao:=h _) rfl v),
   eC.g7 a a a a a a (λw=>eh (bh:=[]) be a9.nil (ao:=h _) a v),
   .dV,v⟩ ?_
  intro t z ad u;have W:t.isSome=f:=(show t.isSome=z 2 from ad).trans (u 2 cc);cases t with
  |none=>cases W
  |some bd=>
  obtain⟨⟨n,T⟩,N⟩:=bd;have aa:=N.ht;have Z:=N.gk;simp only at aa Z;show g r _ _ _ _ _ (Ni A j k1 l (h ⟨(n,T),N⟩) (z 3) (z 7) (z 8));rw[u 3 cc,u 7 cc,u 8 cc];have F:=F n;refine a0 a uc (g.aB (V-1,b++[n],T) a z1 ?_ ⟨by grind,by grind,by grind⟩ M);simp only[F];simp
 refine a7 [(15,m)] a NS (g.aC ?_);refine a0 a v (g.a' (hP A j G k1 40 y B y) [0] a bp ?_);rintro⟨k,aj,ak⟩;have s:(ga b).2.2.1.length=2:=K.bl;have I:(ga b).2.2.2.length=2:=K.b7;by_cases L:k=0
 .obtain⟨bd,d,X⟩:=C 0 (k1+1) y y;obtain⟨O,Q,R⟩:=J 0;have o:=va (r:=r) _ O y y;refine a7 [(29,f),(1000012,f)] a (by simp[L]) (g.bF 2 a a a E E (a0 a v (g.b3 o.tocH [] a a a a ?_ a a a bp a bp a ?_)))
  .simp only[k0,bs,U.Z,U,bb,a_];exact Qy
  exact Ft
 by_cases D:k=1
 .obtain⟨bd,d,X⟩:=C 1 (k1+1) y y;obtain⟨O,Q,R⟩:=J 1;have o:=va (r:=r) _ O y y;obtain⟨ag,an,Y⟩:∃x j,(ga b).2.2.1=[x,j]:=by
   match N:(ga b).2.2.1,s with
   |[x,j],_=>grind
  have H:bu 2 (hF 0 (lu 0 [.int .i64 10,.int .i64 ((ga b).2.2.1.getD 0 (0,0)).2] (a3.fn (ga b).2.2.1))) (a3.fn ((ga b).2.2.1.set 0 (10,((ga b).2.2.1.getD 0 (0,0)).2))):=by
   rw[Y];intro e bq
   match e,bq with
   |0,_=>rfl
   |1,_=>rfl
  refine a7 [(29,m),(33,f),(1000012,f)] a (by simp[D]) (g.bF 2 a a a E E (g.bF 3 a a a E E (a0 a v (g.b3 o.tocH [] a a a a ?_ a a a bp a bp a ?_))))
  .simp only[k0,bm (show¬(1:Int)=0 by decide),bs,U.Z,U,bb,a_];and_intros<;>first|exact bu.same|exact H|rfl|omega|exact s|exact I|exact s.symm|exact I.symm|grind|(simp only[ss];omega)
  exact Ft
 obtain⟨bd,d,X⟩:=C k (k1+1) y y;obtain⟨O,Q,R⟩:=J k;have o:=va (r:=r) _ O y y;refine a7 [(29,m),(33,m),(1000012,f)] a (by simp[L,D]) (g.bF 2 a a a E E (g.bF 3 a a a E E (a0 a v (g.b3 o.tocH [] a a a a ?_ a a a bp a bp a ?_))))
 .simp only[k0,bm L,bm D,U.Z,U,bb,a_];exact Qy
 exact Ft
end
section
section
variable {r:aj V}[r.cb]
structure un where
 cC:nX 0
 fp:Bool
def un.a(a:un):fo:=if a.fp=f then(a.cC.a.1,(a.cC.a.2.1.1,a.cC.a.2.1.2.1,a.cC.a.2.1.2.2++[9]),a.cC.a.2.2)else a.cC.a
end
variable {r:aj V}
end
def Eo(ab)(b):(k0 ab b).2.1=b.1/\(k0 ab b).2.2.1=b.2.1:=by unfold k0;grind
def fe.dY{b}(a:fe k b)(d:k<=1000000):p4 b:=⟨a.bm.toka.fU,by have:=a.b9;omega,by have:=a.cM;omega⟩
def nX.dY{i}(a:nX i):p4 a.a.2.1:=by have b:=a.gq;rw[(Eo a.v (ga a.dM)).1];exact(vR a.dM).a.dY y
def un.dY(a:un):p4 a.a.2.1:=by
 have b:=a.cC.dY;unfold un.a;split
 .refine⟨b.ton4,b.fN,?_⟩;have d:=a.cC.gq;have g:=(vR a.cC.dM).a.cM;have e:=(Eo a.cC.v (ga a.cC.dM)).1;grind
 exact b
end R1
section
namespace R1
variable {r:aj V}[r.cb]
abbrev aao(b:cB)(a:Nat):Nat:=bT (c b.1) (h (a:Int))-bT 0 q
abbrev aap(b:cB)(a:Nat):Nat:=bT (c b.1) q-bT 0 (h ((a:Int)+1))
abbrev lU(a:cB):Nat->p N:=fB (bT 0 q) (a2.fn a.1)
abbrev kP(b:cB)(a:Nat):Nat->p N:=fB (bT 0 (h ((a:Int)+1))) (a2.fn b.1)
end R1
end
namespace R1
section
variable {r:aj V}
def VG(b)(d:dQ b.1):Z r 21 [gw b,gw b] [] (bj f) []:=by refine Z.K func21 rfl λi=>?_;have e:a9 r [(47,e5 [b' b.1,b' b.1] (bj f)),(22,xy)]:=.cons (fu (VF b.1 d)) (.cons ED .nil);refine bg e [(10,f),(17,f)] a ?_ (g.aw a);exact bH
end
def Sk{b}{g:p Int}(a:jF i b):kH i ((b.1,b.2.1.filter λd=>g.contains d.1,b.2.2),hX (b.2.1.filter λd=>g.contains d.1),b.1.map (·.1)):=by refine⟨⟨a.cq,a.c_,a.ax,λd e=>a.a4 d (ji.1 e).1,a.cI.filter _,a.key,a.ec,a.len⟩,λd e k j=>tp.2 ⟨d,e,j⟩,λk j=>?_,rp.2 a.c_⟩;simp_all
def Gh{d}(o:d.Pairwise (·<=·)):∀a,a<=c d->(fz d a).Pairwise (· < ·)/\∀g∈fz d a,0<a/\g<=d.getD (a-1) 0
 |0,_=>by simp[fz]
 |a+1,r=>by
  obtain⟨l,ce⟩:=Gh o a y;have k:∀i,i<a->d.getD i 0<=d.getD a 0:=λi p=>by have:=nb.1 o i a y y p;grind
  rw[fz];split
  .rename_i e;refine⟨l,λg b=>⟨by omega,?_⟩⟩;have:=ce g b;have:=k (a-1) y;simp only[p9];omega
  rename_i e;have j:∀g∈fz d a,g<d.getD a 0:=λg b=>by have t:=ce g b;have s:=k (a-1) y;omega
  refine⟨nd.2 ⟨l,by simp,λg b u n=>?_⟩,λg b=>⟨by omega,?_⟩⟩
  .rw[gH]at n;subst n;exact j g b
  simp only[p9];rcases fx.1 b with b|b
  .have:=j g b;omega
  rw[gH]at b;omega
def acN(l):gf l=gz l.2:=by
 refine A5 ?_ (CW List.Pairwise.nil) λa=>by rw[yE,Dr]
 unfold gf hO;exact(Gh (Mi _) _ (bB _)).1
abbrev ac1(g e:av×aa)(d:dR)(b:cB)(a:p Int):p an:=k6 g e++[gn d,.cells 30 mb,.x,gn (b,a,d.2.2),j1 b]
def ack{b}{a}{o}(d:hh i b=f)(e:1<=a/\a<=2)(g:dP o=f):fD i b a o=if fs i b.1 o=f then(b,m)else(pG i b a o,f):=by unfold fD qK;simp_all
def XD(k A)(i)(b)(bU)(o)(j:p4 b)(w:dQ b.1)(J:ml b.1)(H:a8 .i64 bU):
  Z (aj.aV V) 41 [S i,gw b,S bU,bF.S o] (k6 k A) (j4 (fD i b bU o).1 (fD i b bU o).2) (k6 k A):=by
 refine Z.bp be func41 rfl rfl rfl λP=>?_;have n:a9 (aj.aV V) [(26,xD),(39,rC)]:=.cons EH (.cons wa .nil);have x:(b.1,b.2.1,b.2.2)=b:=rfl;have ao:=w.a1;cases s:hh i b with
 |false=>
  have t:fD i b bU o=(k2,m):=by unfold fD qK;simp[s]
  rw[t];refine bg n [(19,f),(27,f),(31,f)] a ?_ ?_
  .simp only[U,a2.E,a2.U,bk.E,bk.U,a3.E,a3.U,aB.E,aB.U,x,s,j,is,bb,a_]
  exact nS
 |true=>
 by_cases F:1<=bU/\bU<=2
 rotate_left
 .have t:fD i b bU o=(k2,m):=by unfold fD qK;simp[F]
  rw[t];exact bg n [(19,m),(22,f),(27,f),(31,f)] a bH nS
 have R:bU=1∨bU=2:=y;cases I:dP o with
 |false=>
  have t:fD i b bU o=(k2,m):=by unfold fD qK;simp[I]
  rw[t];rcases R with rfl|rfl
  .exact bg n [(19,m),(22,m),(27,m),(31,f)] a zX nS
  exact bg n [(19,m),(22,f),(27,m),(31,f)] a zX nS
 |true=>
 rw[ack s F I];have B:=tQ.1 s;have ag:=tO.2 B.tojF;have aR:=B.tojF.h';have z:=Xv k A i b.1 bU o w j.ton4 J H λu=>(tO.1 u).cP J;rw[aaa,acV ag F I]at z;apply g.cj [(0,S i),(2,S bU),(3,bF.S o),(5,aH 3 0),(8,aH 4 0)] (k6 k A++[gn b,.cells 30 mb])
 .intro dy;rcases R with rfl|rfl
  .exact bg n [(19,m),(22,m),(27,m),(31,m),(1000003,f)] a zX kE
  exact bg n [(19,m),(22,f),(27,m),(31,m),(1000003,f)] a zX kE
 refine cx a v (g.aF (Jb b w j.fN j.fL) [] a (bR [(1000004,f)] a v (g.bF 5 a a a E E (cx a v (g.aF z [0,1,2] a ?_)))));cases X:fs i b.1 o with
 |true=>
  exact bR [(45,f)] a E Pw
 |false=>
 have an:=w.bB;have K:=aR.cP (i:=i) (o:=o) (bU:=bU) (by have:=xf 1 B.cI λp Y=>(B.a4 p Y).1;omega) I X;have ah:(ft i b.1 bU o).2.1.length=c b.1.2.1+1:=by simp[ft]
 have aa:(ft i b.1 bU o).2.1.getD ((ft i b.1 bU o).2.1.length-1) (0,[])=fT (dv b.1) i o:=by rw[ah];simp[ft,al]
 have T:=K.da (fT (dv b.1) i o) M;have L:=wd T.2;have ak:=tr (fT (dv b.1) i o).2;have ai:=K.ew;have G:=j.fN;have Q:=Cv (r:=aj.aV V) (fT (dv b.1) i o) y y;rw[acN]at Q;unfold pG;simp only[bm (show¬(m=f) by simp)];generalize ft i b.1 bU o=l at *;generalize fT (dv b.1) i o=p at *;have ad:((c l.2.1:Int)-1).toNat=c l.2.1-1:=y;have W:l.2.1.getD ((c l.2.1:Int)-1).toNat bk.I=p:=by rw[ad];exact aa
 have C:a9 (aj.aV V) [(54,e5 [iR p] (aB.S (gz p.2)))]:=.cons (fu Q) .nil;refine bg C [(45,m)] a ?_ ?_
 .simp only[U,W,a8];and_intros<;>first|rfl|exact True.intro|omega
 generalize gz p.2=d at *;refine g.aL 8 (λe=>e<=c d) (λe:Nat=>[(8,aH 4 0),(10,aH 6 0),(57,aB.S d),(58,S (c d)),(59,S e)])
  (λe=>ac1 k A b l ((d.take e).foldl eZ b.2.1)) (λe=>c d-e) 0 a ?_ a ?_ a y ?_
 .simp
 .simp
 intro e ab;by_cases u:e<c d
 .have ae:d.getD (e:Int).toNat aB.I=d.getD e 0:=rfl;have N:=yg eZ b.2.1 u;have O:=qw b.2.1 (d.take e);rw[List.length_take]at O;generalize(d.take e).foldl eZ b.2.1=jg at *;have D:a9 (aj.aV V) [(79,e5 [aB.S jg,S (d.getD e 0)] (aB.S (eZ jg (d.getD e 0))))]:=.cons (fu (V_ jg (d.getD e 0) y)) .nil;refine bg D [(60,f)] a ?_ (g.aB (e+1) a E ?_ u y)
  .simp only[U,ae,a8,bA];exact q6
  rw[N];simp
 obtain rfl:e=c d:=y;rw[c8];refine bR [(60,m)] a E (g.aC ?_);exact cx a v nS
abbrev xn(g e:av×aa)(d:fo)(i:gF)(j:Int)(b:jf)(a:Nat->p N):p an:=pA g e d i++[.h 59 2 2 (a3.fn b.2.2.1),.h 3 1 2 a,pR j b.1 b.2.1]
abbrev qj(e d:av×aa)(b:fo)(g:gF)(i:Int)(j:jf)(a:Nat->p N):p an:=xn e d b g i j a++[.x,.x,.x,.x]
abbrev mj(k:Nat)(i g:av×aa)(d:fo)(j:gF)(a:Int)(b:jf)(e:gF):Prop:=
 bl (ι:=qt (cj a b e).1.2.2.2) (aj.aV V) k [aH 8 0,lQ e] (xn i g d j a b (aB.fn b.2.2.2)) (λ_=>bj (cj a b e).2) (λl=>qj i g d j a (cj a b e).1 l.1)
def XT(l s)(e)(j)(i)(b)(d)(n:d.1=3):mj 17 l s e j i b d:=by
 have k:cj i b d=((b.1,d.2.2.2.1,b.2.2),f):=by unfold cj;simp[n]
 unfold mj;rw[k];refine bl.bR func17 rfl rfl rfl (g.aW ?_);exact cx a v wB
def XU(e C)(n)(r)(i)(b)(d)(p:fY k b)(s:d.1=2):mj 16 e C n r i b d:=by
 unfold mj;have o:a9 (aj.aV V) [(38,Bz)]:=.cons MC .nil;by_cases l:1<=d.2.1/\d.2.1<=2
 rotate_left
 .have j:cj i b d=(b,m):=by unfold cj;simp[s,l]
  rw[j];refine bl.bR func16 rfl rfl rfl (g.aW ?_);exact bg o [(8,f)] a (by simp[rB,l]) wB
 have j:cj i b d=((b.1,b.2.1,ht d.2.1 b.1.1 b.2.1 b.2.2),f):=by unfold cj;simp[s,l]
 rw[j];refine bl.bR func16 rfl rfl rfl (g.aW ?_);refine bg o [(8,m)] a (by simp[rB,l]) (g.cL (ID e C n r d i b.1 b.2.1 d.2.1 b.2.2.1 b.2.2.2 p.a.bm.eE l p.bl p.b7) a a a a E a λt=>?_);refine cO o a v (g.eO 2 ?_);refine g.cO 9 a bp ?_;refine g.ret ?_;exact⟨t,.inl a,a,a,_,_,_,a,a,a,a⟩
abbrev ts(a:p an)(e:dR)(_ b d:Bool):p an:=
 match b,d with
 |false,_=>a
 |true,m=>a++[t0]
 |true,f=>a++[gn e]
def ac_{Q}(a:qA Q=m):jz Q=Q:=by
 obtain⟨e,d,b⟩:=Q;cases b with
 |nil=>rfl
 |cons g i=>cases a
abbrev ae'(e:Int)(g b:dR)(a:Bool)(d:Nat):z:=
 [aH 8 0,aH 8 0,aH 8 0,S e,aH 8 0,aH 8 0,aH 8 1,gw g,j4 b a,j4 b a,gw b,bj a,aH 10 0,.any,bj a].getD d .any
set_option maxRecDepth 20000 in
def XW(A d)(l)(e)(i)(b)(n)(B:fY k b)(J:k<=1000)(D:hh i b.1=f)(F:n.1=5):mj 19 A d l e i b n:=by
 unfold mj;have r:cj i b n=((jz b.1,b.2),qA b.1):=by unfold cj;simp[F]
 have C:=XF i b.1 (B.a.dY y) B.a.bm.ev;have t:zp i b.1=(jz b.1,qA b.1):=bs D;rw[t]at C;have u:=ac_ (Q:=b.1);rw[r];generalize jz b.1=o at *;generalize qA b.1=p at *;have j:a9 (aj.aV V) [(43,e5 [S i,gw b.1] (j4 o p))]:=.cons (fu C) .nil;refine bl.bR func19 rfl rfl rfl (g.aW ?_);refine bg j [(1000001,f)] a v ?_;refine g.cx b7 (ae' i b.1 o p) (lV (ts (xn A d l e i b (aB.fn b.2.2.2)++[rM n]) o) 14 12 13) a a a a
  ⟨.aE,.aE,.aE,.aE,.aE,.aE,.aE,.aE,.dw be j (cz:=by exact a),.aE,.aE,.aE,
  cu.eC a a a a a (λx=>by cases x<;>exact eh (bh:=[]) be j (ao:=h _) a v),
  cu.eD a a a a a (λx=>by cases x<;>exact eh (bh:=[]) be j (ao:=h _) a v),
  cu.eB a a a a (λs I=>by cases s<;>cases I<;>exact aV.y),v⟩ ?_
 intro z w;show g (aj.aV V) _ _ _ _ _ (ts _ o (z 14) (z 12) (z 13));rw[w 14 cc,w 12 cc,w 13 cc];cases p with
 |true=>
  exact bg j [(19,f)] a E Fe
 |false=>
  obtain rfl:=u rfl;exact bg j [(19,m)] a E Fe
abbrev ae_(e:Int)(g b:dR)(da:p Int)(a:Bool)(d:Nat):z:=
 [aH 8 0,aH 8 0,aH 8 0,S e,aH 8 0,aH 8 0,aH 8 1,aH 8 1,b' g.1,aH 9 7,aB.S da,j4 b a,j4 b a,gw b,bj a,aH 10 0,.any,bj a].getD d .any
set_option maxRecDepth 20000 in
def XS(A d)(n)(C)(i)(b)(e)(t:fY k b)(B:hh i b.1=f)(y:e.1=4):mj 18 A d n C i b e:=by
 unfold mj;by_cases u:c b.1.2.2=0
 rotate_left
 .have j:cj i b e=(b,m):=by unfold cj;simp[y,u]
  rw[j];refine bl.bR func18 rfl rfl rfl (g.aW ?_);exact bR [(13,f)] a NU wB
 have j:cj i b e=(((kk i b.1.1 e.2.2.2.2).1,b.2),f):=by unfold cj;simp[y,u]
 have w:=TO i b.1.1 e.2.2.2.2 t.a.bm.ev t.a.bm.toka.fU;have p:(kk i b.1.1 e.2.2.2.2).2=f:=by unfold kk;rw[bs (tO.2 (tQ.1 B).tojF)]
 rw[p]at w;rw[j];generalize(kk i b.1.1 e.2.2.2.2).1=o at *;have l:a9 (aj.aV V) [(42,e5 [S i,b' b.1.1,aB.S e.2.2.2.2] (j4 o f))]:=.cons (fu w) .nil;refine bl.bR func18 rfl rfl rfl (g.aW ?_);refine bg l [(13,m),(1000003,f)] a NS ?_;refine g.cx b7 (ae_ i b.1 o e.2.2.2.2 f) (lV (ts (xn A d n C i b (aB.fn b.2.2.2)++[rM e]) o) 17 15 16) a a a a
  ⟨.aE,.aE,.aE,.aE,.aE,.aE,.aE,.aE,.aE,.aE,.aE,.dw be l (cz:=by exact a),.aE,.aE,.aE,
  cu.eC a a a a a (λx=>by cases x<;>exact eh (bh:=[]) be l (ao:=h _) a v),
  cu.eD a a a a a (λx=>by cases x<;>exact eh (bh:=[]) be l (ao:=h _) a v),
  cu.eB a a a a (λs I=>by cases s<;>cases I<;>exact aV.y),v⟩ ?_
 intro z r;show g (aj.aV V) _ _ _ _ _ (ts _ o (z 17) (z 15) (z 16));rw[r 17 cc,r 15 cc,r 16 cc];exact bg l [(29,f)] a E Fe
abbrev afa(g:Int)(j d:dR)(a:Int)(i:p c6)(b:Bool)(e:Nat):z:=
 [aH 8 0,aH 8 0,aH 8 0,S g,aH 8 0,aH 8 0,aH 8 1,gw j,aH 9 1,S a,aH 9 2,bF.S i,j4 d b,j4 d b,gw d,bj b,aH 11 0,.any,bj b].getD e .any
set_option maxRecDepth 20000 in
def XV(t A)(C)(J)(i)(b)(j)(n:fY k b)(Y:k<=1000)(M:j.1=1):mj 15 t A C J i b j:=by
 unfold mj;have F:a9 (aj.aV V) [(38,Bz),(39,rC)]:=.cons MC (.cons wa .nil);by_cases e:1<=j.2.1/\j.2.1<=2
 rotate_left
 .have B:cj i b j=(b,m):=by unfold cj;simp[M,e]
  rw[B];refine bl.bR func15 rfl rfl rfl (g.aW ?_);exact bg F [(11,f),(16,f)] a (by simp[rB,e]) wB
 cases ab:dP j.2.2.1 with
 |false=>
  have B:cj i b j=(b,m):=by unfold cj;simp[M,ab]
  rw[B];refine bl.bR func15 rfl rfl rfl (g.aW ?_);exact bg F [(11,m),(16,f)] a Rl wB
 |true=>
 have B:cj i b j=oO i b j.2.1 j.2.2.1:=by unfold cj;simp[M,e,ab]
 rw[B];have R:=tl (bU:=j.2.1) (b:=b.1.1) (d:=b.2.1) (bd:=b.2.2) n.bl n.b7;have N:=ID (r:=aj.aV V) t A C J j i b.1 b.2.1 j.2.1 b.2.2.1 b.2.2.2 n.a.bm.eE e n.bl n.b7;have O:=XD t A i b.1 j.2.1 j.2.2.1 (n.a.dY y) n.a.bm.ev n.a.bm.fb nT;have X:=D' (i:=i) (bU:=j.2.1) (o:=j.2.2.1) n.a;unfold oO;rw[show((b.2.2.1,b.2.2.2):p (Int×Int)×p Int)=b.2.2 from a]at N;generalize ht j.2.1 b.1.1 b.2.1 b.2.2=l at *;have K:l.2.getD (0+(j.2.1-1).toNat) aB.I=l.2.getD (j.2.1-1).toNat 0:=q_;refine bl.bR func15 rfl rfl rfl (g.aW ?_);refine bg F [(11,m),(16,m)] a Rl (g.cL N a a a a E a λw=>?_);refine bR [(1000004,f)] a v (g.bg (n' t A C J i b.1 b.2.1 l.1 (aB.fn l.2) j++[.x]) a t' ?_);by_cases u:l.2.getD (j.2.1-1).toNat 0=0
 rotate_left
 .rw[bm (λn=>u n.1)];refine bR [(31,f),(38,f)] a ?_ ?_
  .simp only[U,K,a8,kh,d_,bb,a_];and_intros<;>first|exact u|omega
  exact PE
 by_cases D:b.2.1.1=0
 rotate_left
 .rw[bm (λn=>D n.2)];refine bR [(31,m),(38,f)] a ?_ ?_
  .simp only[U,K,u,a8,kh,iG,d_,bb,a_];and_intros<;>first|exact D|omega
  exact PE
 rw[bs ⟨u,D⟩];refine bR [(31,m),(38,m),(1000006,f)] a ?_ ?_
 .simp only[U,K,u,D,a8,iG,bb,a_];omega
 refine g.cx b7 (afa i b.1 (fD i b.1 j.2.1 j.2.2.1).1 j.2.1 j.2.2.1 (fD i b.1 j.2.1 j.2.2.1).2) (lV (ts (n' t A C J i b.1 b.2.1 l.1 (aB.fn l.2) j++[.x]) (fD i b.1 j.2.1 j.2.2.1).1) 18 16 17) a a a a
  ⟨.aE,.aE,.aE,.aE,.aE,.aE,.aE,.aE,.aE,.aE,.aE,.aE,
  cu.eL a a a (λx s I=>aV.dU (by cases s<;>cases I<;>exact dB.dm O.tocH [0,1,2] a a a a a a a bp a bp)),
  .aE,.aE,.aE,
  cu.eC a a a a a (λx=>by cases x<;>exact eh (bh:=[]) be F (ao:=h _) a v),
  cu.eD a a a a a (λx=>by cases x<;>exact eh (bh:=[]) be F (ao:=h _) a v),
  cu.eB a a a a (λs I=>by cases s<;>cases I<;>exact aV.y),v⟩ ?_
 intro z Q;show g (aj.aV V) _ _ _ _ _ (ts _ (fD i b.1 j.2.1 j.2.2.1).1 (z 18) (z 16) (z 17));rw[Q 18 cc,Q 16 cc,Q 17 cc];cases jP:(fD i b.1 j.2.1 j.2.2.1).2 with
 |false=>
  rw[bm E];refine bR [(56,f)] a uh (g.eO 1 ?_);refine g.cO 9 a bp ?_;refine g.cO 11 a bp ?_;refine g.ret ?_;exact⟨⟨_,bu.same⟩,.inl a,a,a,_,_,_,a,a,a,a⟩
 |true=>
  rw[bs a];have T:=(X jP).1;generalize(fD i b.1 j.2.1 j.2.2.1).1=w2 at *;have S:=T7 (r:=aj.aV V) t A C J j w2 i w2 b.2.1 j.2.1 l.1 l.2 T.bm.eE e R.1 R.2;rw[show((l.1,l.2):p (Int×Int)×p Int)=l from a]at S;refine bR [(56,m)] a uh (g.cL S a a a a E a λW=>?_);refine cx a v (g.cO 9 a bp ?_);refine g.cO 11 a bp ?_;refine g.ret ?_;exact⟨W,.inl a,a,a,_,_,_,a,a,a,a⟩
section
variable {r:aj V}
def T2(d)(i:c d<=4000000):Z r 45 [a3.S d] [] (cD 0 (.S (c d) 2 0 (c d))) [.h 59 2 (c d) (a3.fn d)]:=by
 refine Z.K func45 rfl λj=>?_;refine a0 a v (g.en be a a a a a a λb e=>?_);cases b with
 |true=>
  obtain rfl:=jI (e rfl);refine a0 a v (g.fe 2 59 2 (a3.fn []) a ?_);exact Fl
 |false=>
  refine gR [] 7 a v (g.dK 5 59 2 (a3.fn []) a ?_);refine a0 a ⟨a,a,show(0+c d)*16<=_ by omega⟩ (g.bg [.h 59 2 (c d) (a3.fn d)] a ?_ ?_)
  .simp[bu,cg]
  exact Fy
abbrev uP(a:dR):an:=.h 89 2 (c a.1.1) (a2.fn a.1.1)
abbrev xh(da:p (Int×Int)):an:=.h 59 2 (c da) (a3.fn da)
abbrev Nj(a:fo):p O:=.c (.int .i64 a.1)::([.R 2 (.S (c a.2.1.1.1) 2 0 (c a.2.1.1.1)),cL bk a.2.1.1.2.1,cL a3 a.2.1.1.2.2,cL aB a.2.1.2.1,cL aB a.2.1.2.2]++vw a.2.2.1++[.R 3 (.S (c a.2.2.2.1) 2 0 (c a.2.2.2.1)),.R 4 (.S (c a.2.2.2.2) 1 0 (c a.2.2.2.2))])
def Ic(a:fo)(b d e g:Bool):p an:=
 match b,d,e,g with
 |true,f,f,f=>[m3 a,.cells 35 (Nj a),uP a.2.1,xh a.2.2.2.1,jN (c a.2.2.2.2) a.2.2.2.2]
 |true,f,f,m=>[m3 a,fX,uP a.2.1,xh a.2.2.2.1,jN (c a.2.2.2.2) a.2.2.2.2]
 |true,f,m,_=>[m3 a,fX,uP a.2.1,xh a.2.2.2.1]
 |true,m,_,_=>[m3 a,fX,uP a.2.1]
 |false,_,_,_=>[m3 a,fX]
abbrev ae0(a:fo)(b:Nat):z:=
 [aH 0 0,S a.1,aH 0 1,gw a.2.1,.q (.agg [.R 2 (.S (c a.2.1.1.1) 2 0 (c a.2.1.1.1)),cL bk a.2.1.1.2.1,cL a3 a.2.1.1.2.2,cL aB a.2.1.2.1,cL aB a.2.1.2.2]),aH 0 6,eF a.2.2.1,aH 0 10,a3.S a.2.2.2.1,cD 3 (.S (c a.2.2.2.1) 2 0 (c a.2.2.2.1)),
  aH 0 11,aB.S a.2.2.2.2,cD 4 (.S (c a.2.2.2.2) 1 0 (c a.2.2.2.2)),.q (.agg (Nj a)),.any].getD b .any
set_option maxRecDepth 20000 in
def XR(b)(k:dQ b.2.1.1)(I:c b.2.1.2.1<=4000000)(i:c b.2.1.2.2<=4000000)(d:c b.2.2.2.1=2)(s:c b.2.2.2.2=2):
  Z r 20 [fZ b] [] (.q (.agg (gT b.1 b.2.1 b.2.2.1 0))) (ln b.2.2.2.1 b.2.2.2.2):=by
 refine Z.bp be func20 rfl rfl rfl λl=>?_
 have x:a9 r [(44,k' [gw b.2.1] [] (.q (.agg [.R 0 (.S (c b.2.1.1.1) 2 0 (c b.2.1.1.1)),cL bk b.2.1.1.2.1,cL a3 b.2.1.1.2.2,cL aB b.2.1.2.1,cL aB b.2.1.2.2])) [uP b.2.1]),
   (45,k' [a3.S b.2.2.2.1] [] (cD 0 (.S (c b.2.2.2.1) 2 0 (c b.2.2.2.1))) [xh b.2.2.2.1]),
   (46,k' [aB.S b.2.2.2.2] [] (cD 0 (.S (c b.2.2.2.2) 1 0 (c b.2.2.2.2))) [jN (c b.2.2.2.2) b.2.2.2.2])]:=
  .cons (l' (Jb b.2.1 k I i)) (.cons (l' (T2 b.2.2.2.1 y)) (.cons (l' (IA b.2.2.2.2 y)) .nil))
 refine bg x [(1000001,f)] a v ?_;refine g.cx b7 (ae0 b) (mF (Ic b) 4 9 12 14) a a a a
  ⟨.aY,.aY,.aY,.aY,
  cu.ay a a a a a a (eh (bh:=[]) be x (ao:=h _) a ⟨rfl,rfl⟩),
  .aY,.aY,.aY,.aY,
  cu.eT a a a a a a (eh (bh:=[]) be x (ao:=h _) a ⟨rfl,rfl⟩),
  .aY,.aY,
  cu.eV a a a a a a (eh (bh:=[]) be x (ao:=h _) a ⟨rfl,rfl⟩),
  .aY,
  cu.eW a a a a a a (eh (bh:=[]) be x (ao:=h _) a v),v⟩ ?_
 intro z j;show g r _ _ _ _ _ (Ic b (z 4) (z 9) (z 12) (z 14));rw[j 4 cc,j 9 cc,j 12 cc,j 14 cc];refine qT x [] 1 a v (g.bF 2 a a a E E (g.bg [m3 b,.cells 35 (gT b.1 b.2.1 b.2.2.1 3),.x,.h 59 2 2 (a3.fn b.2.2.2.1),.h 3 1 2 (aB.fn b.2.2.2.2)] a ?_ ?_))
 .simp[hF,d,s]
 refine g.bj () [3,4] ?_ (λn e=>absurd e E);simp
end
abbrev Nt:fo:=(0,k2,nQ,[],[])
def lR(a:fo)(b:gF):fo×Bool:=if hj a=f then((a.1,(cj a.1 a.2 b).1),(cj a.1 a.2 b).2)else(Nt,m)
abbrev zu(a:fo×Bool):z:=.Q [.agg (nO a.1),.aq (.c (.bool a.2))]
def zI{a}(b:hj a=f):c a.2.2.2.1=2/\c a.2.2.2.2=2/\hh a.1 a.2.1=f:=by simp only[hj,cp,bA]at b;exact⟨b.1.1.1,b.1.1.2,b.2⟩
abbrev ve(a:Nat):p N:=[.fn (.func a) [] []]
abbrev EK:p (p N):=[ve 15,ve 16,ve 17,ve 18,ve 19]
abbrev X8(a:Nat):Nat:=[15,16,17,18,19].getD (a-1) 0
abbrev wn(a:Int)(e:gF)(d:Bool)(b:Nat):z:=
 [ax (.S f 1 5 λb=>EK.getD b []),aH 4 0,S a,S (a-1),ax (.O (EK.getD (a-1).toNat [])),ax ((EK.getD (a-1).toNat []).getD 0 (.bool m)),lQ e,bj d,bj d].getD b .any
set_option maxRecDepth 20000 in
def XY(n j)(b)(i)(k)(u:fe (6000+240*k) b.2.1)(I:k<=1000):
  Z (aj.aV V) 6 [fZ b,lQ i] (k6 n j) (zu (lR b i)) (k6 n j):=by
 refine Z.bp be func6 rfl rfl rfl λz=>?_;have x:a9 (aj.aV V) [(9,e5 [fZ b] (bj (hj b)))]:=.cons (fu (Jg b (u.dY y))) .nil;unfold lR;cases b2:hj b with
 |false=>
  exact bg x [(11,f)] a me nS
 |true=>
 obtain⟨B,D,F⟩:=zI b2;have t:fY k b.2:=⟨u,B,D⟩;have N:=u.b_ y
 rw[bs a];refine bg x [(11,m)] a me (g.aF (XR b N.bm (by have:=u.b9;omega) (by have:=u.cM;omega) B D) [] a ?_);by_cases M:1<=i.1/\i.1<=5
 rotate_left
 .have O:cj b.1 b.2 i=(b.2,m):=by unfold cj;grind
  rw[O];apply g.cj [(2,aH 3 0),(3,aH 4 0),(4,aH 5 0),(7,aH 8 0)] (pA n j b i++ln b.2.2.2.1 b.2.2.2.2++[pR b.1 b.2.1 b.2.2.1])
  .intro dy;by_cases J:i.1<1
   .exact bg x [(19,f),(23,f),(1000006,f)] a (by simp[J]) kE
   exact bg x [(19,m),(23,f),(1000006,f)] a bV kE
  refine g.bF 6 a a a E E (g.bF 7 a a a E E (cO x a v (g.cv () [0,1,2] ?_ pk)));simp[hF,B,D]
 have bC:mj (X8 i.1.toNat) n j b i b.1 b.2 i:=by
  have A:i.1=1∨i.1=2∨i.1=3∨i.1=4∨i.1=5:=y;rcases A with s|s|s|s|s<;>rw[s]
  .exact XV n j b i b.1 b.2 i t I s
  .exact XU n j b i b.1 b.2 i t s
  .exact XT n j b i b.1 b.2 i s
  .exact XS n j b i b.1 b.2 i t F s
  exact XW n j b i b.1 b.2 i t I F s
 unfold mj at bC;have C:(cj b.1 b.2 i).1.2.2.1.length=2/\(cj b.1 b.2 i).1.2.2.2.length=2:=⟨(t.do).bl,(t.do).b7⟩;refine bg x [(19,m),(23,m),(1000007,f)] a bV ?_
 generalize K:cj b.1 b.2 i=e at *;have A:i.1=1∨i.1=2∨i.1=3∨i.1=4∨i.1=5:=y;obtain⟨s,d,r,l,p⟩:=i;simp only at A bC;rcases A with rfl|rfl|rfl|rfl|rfl
 .refine g.di b7 7 (λo=>ay o 6) (wn 1 (1,d,r,l,p) e.2) (λ(_:qt e.1.2.2.2) o=>[bj e.2,bj e.2].getD (o-7) .any) (λw=>qj n j b (1,d,r,l,p) b.1 e.1 w.1) a a a a a a wx ww wy ?_;intro w;refine g.bg (pA n j b (1,d,r,l,p)++ln e.1.2.2.1 e.1.2.2.2++[pR b.1 e.1.1 e.1.2.1,.x,.x,.x,.x]) a t' ?_;exact wv
 .refine g.di b7 7 (λo=>ay o 6) (wn 2 (2,d,r,l,p) e.2) (λ(_:qt e.1.2.2.2) o=>[bj e.2,bj e.2].getD (o-7) .any) (λw=>qj n j b (2,d,r,l,p) b.1 e.1 w.1) a a a a a a wx ww wy ?_;intro w;refine g.bg (pA n j b (2,d,r,l,p)++ln e.1.2.2.1 e.1.2.2.2++[pR b.1 e.1.1 e.1.2.1,.x,.x,.x,.x]) a t' ?_;exact wv
 .refine g.di b7 7 (λo=>ay o 6) (wn 3 (3,d,r,l,p) e.2) (λ(_:qt e.1.2.2.2) o=>[bj e.2,bj e.2].getD (o-7) .any) (λw=>qj n j b (3,d,r,l,p) b.1 e.1 w.1) a a a a a a wx ww wy ?_;intro w;refine g.bg (pA n j b (3,d,r,l,p)++ln e.1.2.2.1 e.1.2.2.2++[pR b.1 e.1.1 e.1.2.1,.x,.x,.x,.x]) a t' ?_;exact wv
 .refine g.di b7 7 (λo=>ay o 6) (wn 4 (4,d,r,l,p) e.2) (λ(_:qt e.1.2.2.2) o=>[bj e.2,bj e.2].getD (o-7) .any) (λw=>qj n j b (4,d,r,l,p) b.1 e.1 w.1) a a a a a a wx ww wy ?_;intro w;refine g.bg (pA n j b (4,d,r,l,p)++ln e.1.2.2.1 e.1.2.2.2++[pR b.1 e.1.1 e.1.2.1,.x,.x,.x,.x]) a t' ?_;exact wv
 refine g.di b7 7 (λo=>ay o 6) (wn 5 (5,d,r,l,p) e.2) (λ(_:qt e.1.2.2.2) o=>[bj e.2,bj e.2].getD (o-7) .any) (λw=>qj n j b (5,d,r,l,p) b.1 e.1 w.1) a a a a a a wx ww wy ?_;intro w;refine g.bg (pA n j b (5,d,r,l,p)++ln e.1.2.2.1 e.1.2.2.2++[pR b.1 e.1.1 e.1.2.1,.x,.x,.x,.x]) a t' ?_;exact wv
section
variable {Q:dR}{bU:Int}{o:p c6}
def acl(j:ml Q.1)(d:(fD i Q bU o).2=f):kH i Q/\j' i Q.1 bU o/\fD i Q bU o=(pG i Q bU o,f):=by
 unfold fD at *;split at d
 .rename_i b;rw[bs b];split at d
  .cases d
  rename_i g;rw[bm g];simp only[qK,cp,bA]at b;have e:=tQ.1 b.1.1;exact⟨e,⟨e.tojF,j,b.1.2,b.2,by simp_all⟩,a⟩
 cases d
def kH.cP(e:kH i Q)(j:j' i Q.1 bU o):kH i (pG i Q bU o):=by
 refine⟨j.ok,λg b d a=>?_,λd a=>?_,e.hq⟩
 .show d∈(gz (fT (dv Q.1) i o).2).foldl eZ Q.2.1;rw[yD,Dr];have b:g∈Q.1.2.1++[fT (dv Q.1) i o]:=b;rcases fx.1 b with b|b
  .exact .inl (e.gx g b d a)
  simp_all
 obtain⟨n,k,l⟩:=e.gv d a;exact⟨n,AL _ k,l⟩
end
section
variable {r:aj V}
abbrev ET(a:fo)(d b:Nat):p O:=.c (.int .i64 a.1)::([cL a2 a.2.1.1.1,cL bk a.2.1.1.2.1,cL a3 a.2.1.1.2.2,cL aB a.2.1.2.1,.r d 1 (c a.2.1.2.2) (aB.fn a.2.1.2.2)]++vw a.2.2.1++[.R b (.S 2 2 0 2),.R (b+1) (.S 2 1 0 2)])
def Ue(a)(e:p5 a.2.1)(b:c a.2.2.2.1=2)(d:c a.2.2.2.2=2):Z r 14 [fZ a] [] (.q (.agg (ET a 0 1))) ([hU a.2.1]++hc a.2):=by have:=va (r:=r) a e y y;simp only[zG,B',b,d]at this;exact this
abbrev m2(b:fo)(a:gF):p an:=[.cells 35 (nO b),rM a,fX]
abbrev yK:an:=.J λ_ _=>False
def aaW(u:bc (n++[yK]) b):False:=by have a:c n<c b.m:=E5;obtain⟨_,d,_⟩:=u.box (c n) yK _ wS (bK a);exact d.elim
def D_(a:fo)(b:gF)(i:Option Bool)(g d e:Bool):p an:=
 match i with
 |none=>match d with
  |false=>m2 a b
  |true=>m2 a b++[fX]
 |some f=>match g,d,e with
  |false,m,_=>m2 a b++[fX,hU a.2.1]++hc a.2++[yK]
  |true,m,_=>m2 a b++[fX,hU a.2.1]++hc (cj a.1 a.2 b).1++[yK]
  |false,f,_=>m2 a b++[fX,hU a.2.1]++hc a.2
  |true,f,m=>m2 a b++[fX,hU a.2.1]++hc (cj a.1 a.2 b).1
  |true,f,f=>m2 a b++[.cells 35 (gT a.1 (cj a.1 a.2 b).1.1 (cj a.1 a.2 b).1.2.1 5),hU a.2.1]++hc (cj a.1 a.2 b).1
 |some m=>match g,d,e with
  |false,m,_=>m2 a b++[hU a.2.1]++hc a.2
  |false,f,_=>m2 a b++[hU a.2.1]++hc a.2++[fX]
  |true,m,_=>m2 a b++[hU a.2.1]++hc (cj a.1 a.2 b).1
  |true,f,m=>m2 a b++[hU a.2.1]++hc (cj a.1 a.2 b).1++[fX]
  |true,f,f=>m2 a b++[hU a.2.1]++hc (cj a.1 a.2 b).1++[.cells 35 (gT a.1 (cj a.1 a.2 b).1.1 (cj a.1 a.2 b).1.2.1 4)]
def q3(a:fo)(b:gF)(e:Option Bool)(d:Nat):z:=
 match e with
 |none=>[fZ a,.any,lQ b,.any,.any,.any,.any,aH 3 0,.any,.any].getD d .any
 |some f=>[fZ a,.q (.agg (ET a 4 5)),lQ b,.Q [.agg (gT a.1 (cj a.1 a.2 b).1.1 (cj a.1 a.2 b).1.2.1 5),.aq (.c (.bool (cj a.1 a.2 b).2))],.Q [.agg (gT a.1 (cj a.1 a.2 b).1.1 (cj a.1 a.2 b).1.2.1 5),.aq (.c (.bool (cj a.1 a.2 b).2))],.q (.agg (gT a.1 (cj a.1 a.2 b).1.1 (cj a.1 a.2 b).1.2.1 5)),bj (cj a.1 a.2 b).2,aH 3 0,.any,bj (cj a.1 a.2 b).2].getD d .any
 |some m=>[fZ a,.q (.agg (ET a 3 4)),lQ b,.Q [.agg (gT a.1 (cj a.1 a.2 b).1.1 (cj a.1 a.2 b).1.2.1 4),.aq (.c (.bool (cj a.1 a.2 b).2))],.Q [.agg (gT a.1 (cj a.1 a.2 b).1.1 (cj a.1 a.2 b).1.2.1 4),.aq (.c (.bool (cj a.1 a.2 b).2))],.q (.agg (gT a.1 (cj a.1 a.2 b).1.1 (cj a.1 a.2 b).1.2.1 4)),bj (cj a.1 a.2 b).2,aH 6 0,.any,bj (cj a.1 a.2 b).2].getD d .any
def Nm{R:Prop}(u:R:=by intro I x j s;rcases I with _|w<;>(try cases w)<;>cases x<;>cases j<;>cases s<;>rfl):R:=u
def zJ{R:Prop}(u:R:=by intro w x j s;cases w<;>cases x<;>cases j<;>cases s<;>rfl):R:=u
def fY.kl{b}(a:fY k b)(d:k<=1001):p5 b.1:=a.a.b_ y
set_option maxRecDepth 20000 in
theorem XZ(b)(i)(k)(Q:fe (6000+240*k) b.2.1)(G:k<=1000):
  Z r 5 [fZ b,lQ i] [] (zu (lR b i)) []:=by
 refine Z.bp be func5 rfl rfl rfl λH=>?_;have s:a9 r [(8,e5 [fZ b] (bj (hj b)))]:=.cons (fu (Jh b (Q.b_ y).b9)) .nil;unfold lR;cases b2:hj b with
 |false=>
  exact bg s [(10,f)] a me OK
 |true=>
 obtain⟨S,N,ah⟩:=zI b2;have ab:fY k b.2:=⟨Q,S,N⟩;have ad:=Q.b_ y
 rw[bs a];have O:=Ue (r:=r) b ad S N;have l:=IK (r:=r) b.1 b.2 i k ab G;have I:fY (k+1) (cj b.1 b.2 i).1:=ab.do;refine bg s [(10,m),(1000003,f)] a me ?_;refine g.hf b7 (q3 b i) (mo (D_ b i) 3 7 8) (mh Bool 1) q a a a a a
   ⟨.fQ be s Nm,
   eC.iX a a a a a (λj w=>w=j) (λj w K J=>by
    subst K
    match J with
    |0=>exact .inr (.inr (.inr zL))
    |1=>exact .inl rfl
    |2=>exact .inr (.inr (.inr zL))
    |3=>exact .inr (.inl rfl)
    |4=>exact .inr (.inl rfl)
    |5=>exact .inr (.inl rfl)
    |6=>exact .inr (.inl rfl)
    |7=>cases w with
     |false=>exact .inr (.inr (.inl ⟨rfl,rfl⟩))
     |true=>exact .inr (.inr (.inr rfl))
    |8=>exact .inr (.inr (.inr zL))
    |9=>exact .inr (.inl rfl)
    |J+10=>exact .inr (.inr (.inr zL))) (λj=>by
     intro aa x V M dV X A T W e K D B;cases j
     .exact dB.dm O.tocH [] a a a a a a a bp a bp aa x V M dV X A T W e K D λ_ R u n o p=>B ⟨m,a⟩ R u n o p
     .exact dB.dm O.tocH [] a a a a a a a bp a bp aa x V M dV X A T W e K D λ_ R u n o p=>B ⟨f,a⟩ R u n o p),
   .fQ be s Nm,
   eC.g5 a a a a a (λw x=>aV.dU (by
    cases w
    .cases x
     .exact PH
     exact PH
    .cases x
     .exact dB.b3 l.tocH [5,6] a a a a E a a a bp a bp
     .exact dB.b3 l.tocH [5,6] a a a a E a a a bp a bp)),
   .dV be s zJ,
   .dV be s zJ,
   .dV be s zJ,
   eC.g6 rfl rfl rfl rfl (λF x=>by rcases F with _|J<;>(try cases J)<;>cases x<;>first|exact eh (bh:=[]) be s (ao:=h _) rfl v|exactλ_ _ _ M=>(aaW M).elim),
   eC.g7 a a a a a a (λw=>by cases w<;>exact eh (bh:=[]) be s (ao:=h _) a v),
   .dV be s zJ,v⟩ ?_
 intro F z ae C;have ag:F.isSome=f:=(show F.isSome=z 1 from ae).trans (C 1 cc);have d:=I.bl;have t:=I.b7;have Y:=Ud (r:=r) (b.1,(cj b.1 b.2 i).1) (I.kl y) (by simp only;omega) (by simp only;omega);cases F with
 |none=>cases ag
 |some w=>
 show g r _ _ _ _ _ (D_ b i (h w) (z 3) (z 7) (z 8));rw[C 3 cc,C 7 cc,C 8 cc];cases w with
 |false=>
  refine qT s [] 1 a v (g.bF 4 a a a E E (g.bF 5 a a a E E (cO s a v (g.b3 Y.tocH [] a a a a Pb a a a bp a bp a ?_))));exact Ol
 |true=>
  refine qT s [] 1 a v (g.bF 5 a a a E E (g.bF 6 a a a E E (cO s a v (g.b3 Y.tocH [] a a a a Pb a a a bp a bp a ?_))));exact Ol
end
section
variable {r:aj V}
def Cp(b)(e:dQ b.2.1.1)(j:c b.2.2.2.1<=4000000):Z r 7 [fZ b,fZ b] [] (bj f) []:=by
 refine Z.K func7 rfl λk=>?_;have x:a9 r [(21,e5 [gw b.2.1,gw b.2.1] (bj f)),(22,xy)]:=.cons (fu (VG b.2.1 e)) (.cons ED .nil);refine bg x [(11,m),(19,m),(26,m),(35,m),(42,m)] a (by simp[aB.U,aB.E]) (g.aL 2 (λd=>d<=c b.2.2.2.1) (λd:Nat=>[(2,aH 0 0),(3,aH 1 0),(5,S d)]) (λ_=>[.cells 35 (nO b),.cells 35 (nO b)]) (λd=>c b.2.2.2.1-d) 0 a E a E a y ?_);intro d i;by_cases l:d<c b.2.2.2.1
 .refine bg x [(47,f),(60,m)] a ?_ (g.aB (d+1) a ?_ ?_ ?_ ?_)
  .simp only[U,a8,gh,gu,iG,bA,bb,a_];and_intros<;>first|omega|rfl|simp
  .simp
  .simp
  .grind
  omega
 refine bg x [(47,m)] a bV (g.aC ?_);exact zW
end
structure rg where
 cC:nX 0
 q:{R:gF×Nat // Aj cC.k1 R}
abbrev rg.a(a:rg):fo:=a.cC.a
abbrev rg.gj(a:rg):gF:=a.q.1.1
section
variable {r:aj V}[r.cb]
set_option maxRecDepth 20000 in
def Us(A)(d:Nat->Int)(l:Bytes d)(n:A<=1048576):
  bl (ι:=rg) r 4 [ax (.S m 1 A (sN d))] [] (λk=>.Q [.agg (nO k.a),.agg (Ch k.gj)]) (λ_=>[]):=by
 refine bl.hn func4 rfl rfl (ff rfl) (g.aW ?_);refine a0 a v (g.a' (Wu A d n) [] a bp ?_);rintro⟨i,b⟩;refine a0 a v (g.a' (XX i d l 0 y b) [2] a bp ?_);intro e;have p:=e.gk;refine a0 a v (g.a' (IL i d l e.k1 y b) [2] a bp ?_);intro j;refine a0 a v (g.bF 4 a a a E E (g.bF 5 a a a E E (g.bg [.cells 35 (nO e.a),rM j.1.1,ei i d j.1.2,hU e.a.2.1,.x,.x] a ?_ ?_)))
 .simp[hF]
 refine g.freeze 2 0 a a a ?_;refine g.freeze 3 1 a a a ?_;refine g.bS (λ_ _ _ o=>⟨⟨e,j⟩,o⟩) ?_;exact Qs
end
def nX.gL(a:nX 0):fe (6000+240*8) a.a.2.1:=by rw[(Eo a.v (ga a.dM)).1];exact(vR a.dM).a.mono (by have:=a.gq;omega)
def ux(a:p (Int×Int)×p Int):Prop:=c a.1=2/\c a.2=2/\∀b,b<2->oH (a.1.getD b (0,0))=f/\0<=a.2.getD b 0/\a.2.getD b 0<=2
def Nl{b}:hj (i,b)=f↔kH i b.1/\ux b.2.2:=by
 unfold hj ux;simp[cp,bA,fN,tQ,pP];constructor
 .rintro⟨⟨⟨a,j⟩,d⟩,s⟩;exact⟨s,a,j,d⟩
 rintro⟨s,a,j,d⟩;exact⟨⟨⟨a,j⟩,d⟩,s⟩
def aaJ{A}{d}(b:oH A=f):oH (kT A d).1=f/\0<=(kT A d).2/\(kT A d).2<=2:=by
 unfold kT;split
 .rename_i s;split
  .obtain⟨j,e⟩:=Dl s.1;have a:=(v8 j e (c d)).1;rw[c8]at a;refine⟨?_,by simp,by simp⟩;simp only[oH,cp,bA];exact⟨⟨by omega,by omega⟩,a⟩
  exact⟨b,by simp,by simp⟩
 exact⟨b,by simp,by simp⟩
def ux.look{bU}{b}{d}{i}(g:ux i)(t:1<=bU/\bU<=2):ux (ht bU b d i):=by
 obtain⟨l,n⟩:=tl (bU:=bU) (b:=b) (d:=d) g.1 g.2.1;refine⟨l,n,λa o=>?_⟩;have p:(bU-1).toNat<2:=y;obtain⟨s,r⟩:=g.2.2 a o;have j:=aaJ (d:=(oB b d).2.2) (g.2.2 _ p).1;unfold ht;split
 .have dK:∀e,(i.1.set (bU-1).toNat e).getD a (0,0)=if(bU-1).toNat=a then e else i.1.getD a (0,0):=λe=>by simp[al,o6];split<;>simp_all[g.1]
  have k:∀e,(i.2.set (bU-1).toNat e).getD a 0=if(bU-1).toNat=a then e else i.2.getD a 0:=λe=>by simp[al,o6];split<;>simp_all[g.2.1]
  rw[dK,k];split
  .exact⟨j.1,j.2⟩
  exact⟨s,r⟩
 exact⟨s,r⟩
def S'{b}{ai}(p:fe k b.1)(s:hj (i,b)=f):hj (i,(cj i b ai).1)=f:=by
 obtain⟨a,g⟩:=Nl.1 s;refine Nl.2 ?_;unfold cj;split
 .split
  .rename_i j;have l:=g.look (b:=b.1.1) (d:=b.2.1) j.1;unfold oO;split
   .split
    .rename_i e;obtain⟨r,n,o⟩:=acl p.bm.fb e;rw[o];exact⟨r.cP n,l.look j.1⟩
    exact⟨a,l⟩
   exact⟨a,l⟩
  exact⟨a,g⟩
 split
 .split
  .rename_i j;exact⟨a,g.look j⟩
  exact⟨a,g⟩
 split
 .exact⟨a,g⟩
 split
 .split
  .refine⟨?_,g⟩;unfold kk;rw[bs (tO.2 a.tojF)];exact Sk a.tojF
  exact⟨a,g⟩
 split
 .exact⟨a.step,g⟩
 exact⟨a,g⟩
def S_{b}{a}(d:¬(1<=a.1/\a.1<=5)):cj i b a=(b,m):=by unfold cj;grind
structure FZ(Q:fo)(ai:gF):Prop where
 bm:∀{r:aj V},Z r 5 [fZ Q,lQ ai] [] (zu (lR Q ai)) []
 a_:∀Ip Iq,Z (aj.aV V) 6 [fZ Q,lQ ai] (k6 Ip Iq) (zu (lR Q ai)) (k6 Ip Iq)
 jr:∀{r:aj V},Z r 7 [fZ (lR Q ai).1,fZ (lR Q ai).1] [] (bj f) []
 ok:∀{r:aj V},Z r 8 [fZ Q] [] (bj (hj Q)) []
 kA:∀{r:aj V},hj Q=f->Z r 7 [fZ Q,fZ Q] [] (bj f) []
 j_:hj Q=f->fY 1001 (cj Q.1 Q.2 ai).1
 gL:fe (6000+240*8) Q.2.1
def S9{b}{e}(d:fe (6000+240*8) b.2.1):FZ b e:=by
 have i:hj b=f->fY 8 b.2:=λa=>⟨d,(zI a).1,(zI a).2.1⟩
 have g:hj b=f->fY 9 (cj b.1 b.2 e).1:=λa=>(i a).do;refine⟨XZ b e 8 d y,λk j=>XY k j b e 8 d y,?_,Jh b (d.b_ y).b9,λa=>?_,λa=>(g a).mono y,d⟩
 .unfold lR;cases a:hj b with
  |false=>exact Cp Nt ⟨by simp,by simp,by simp,by simp[lv],by simp⟩ E
  |true=>exact Cp (b.1,(cj b.1 b.2 e).1) (g a).a.bm.ev (by have:=(g a).bl;simp only;omega)
 .exact Cp b d.bm.ev (by have:=(i a).bl;omega)
def rg.do(a:rg):FZ a.a a.gj:=S9 a.cC.gL
def VA(k d)(A)(l:Nat->Int)(z:Bytes l)(_:A<=9223372036854775807):Z (aj.aV V) 3 [ax (.S m 1 A (sN l))] (k6 k d) (bj f) (k6 k d):=by
 refine Z.K func3 rfl λD=>?_;by_cases C:1048576<A
 .refine a7 [(11,f)] a bV (g.aS [0,1,2] a ?_ pk);simp
 refine a7 [(11,m)] a bV (g.a' (Us A l z y) [] a bp ?_);intro n;have e:=n.do;generalize n.a=b at *;generalize n.gj=ai at *;refine a0 a v (g.aF e.bm [] a (a0 a v (g.aF (e.a_ k d) [0,1,2] a ?_)));have j:=e.jr (r:=aj.aV V);cases b2:hj b with
 |false=>
  have i:a9 (aj.aV V) [(7,e5 [fZ (lR b ai).1,fZ (lR b ai).1] (bj f)),(8,e5 [fZ b] (bj (hj b)))]:=.cons (fu j) (.cons (fu e.ok) .nil);generalize lR b ai=x at *;refine bg i [(32,m),(38,m),(42,f),(46,f)] a me (g.aS [0,1,2] a ?_ pk);simp
 |true=>
 have p:lR b ai=((b.1,(cj b.1 b.2 ai).1),(cj b.1 b.2 ai).2):=bs b2;have w:=e.j_ b2;have u:=S' (ai:=ai) e.gL b2;have o:=Jg (b.1,(cj b.1 b.2 ai).1) (w.a.dY y);rw[u]at o;rw[p]at j;rw[p];have i:a9 (aj.aV V) [(7,e5 [fZ (b.1,(cj b.1 b.2 ai).1),fZ (b.1,(cj b.1 b.2 ai).1)] (bj f)),(8,e5 [fZ b] (bj (hj b))),(9,e5 [fZ (b.1,(cj b.1 b.2 ai).1)] (bj f))]:=.cons (fu j) (.cons (fu e.ok) (.cons (fu o) .nil));by_cases t:1<=ai.1/\ai.1<=5
 .generalize cj b.1 b.2 ai=x at *;refine bg i [(32,m),(38,m),(42,m),(53,f),(57,f),(62,f)] a ?_ (g.aS [0,1,2] a ?_ pk)
  .simp[b2,t]
  simp
 rw[S_ t]at *;have B:((b.1,b.2):fo)=b:=rfl;by_cases s:1<=ai.1
 .refine bg i [(32,m),(38,m),(42,m),(53,f),(57,f),(62,m),(65,f)] a ?_ (g.aS [0,1,2] a ?_ pk)
  .simp[b2,s];omega
  simp
 refine bg i [(32,m),(38,m),(42,m),(53,f),(57,m),(62,m),(65,f)] a ?_ (g.aS [0,1,2] a ?_ pk)
 .simp[b2,s]
 simp
end R1
end Go.AM
