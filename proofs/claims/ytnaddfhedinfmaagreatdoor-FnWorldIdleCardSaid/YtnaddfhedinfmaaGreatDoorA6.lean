/- Part 6. No condition. -/
import Derived.Test.YtnaddfhedinfmaaGreatDoorA5
import Derived.Conc.CrowdComm
import Derived.Conc.SmallLaws
import Derived.Conc.EventLaws
set_option linter.all false
set_option maxHeartbeats 8000000
open Go.Proofs
open Go.Proofs.Tryz
open List renaming length → c, range → aD, getD_eq_getElem?_getD → al
open Go renaming Value → Z, TypeId → av, World → au, Frame → aK, Operand → aA, Program → aI, Goroutine → ak, Oper → ap
open Option renaming some → h, none → q
open Bool renaming true → f, false → m
open Nat renaming ble → ay
open Go.Proofs.Tryz renaming prog → V
namespace Go.AM
variable {k A:Nat}{i:Int}{d j e w:Nat}{W:av}{H:Z->(Nat->Option Obj)->Prop}{L:Array Bool}{bB:Mem}{D:Nat}{P:aI}{bq:ak->a5->Prop}{s:Code}{C:ak}{t:ap}{b:a5}{o:av}{aa:Z}{l X:aA}{α:Type}{η:aA->z}{ι:Type}{n:p an}{F:bH}{all:p ap}{dn:Array av}{cap:p N}{cR:p z}{k6:Nat->Option Obj}{ah:p aK}{bg:p (Nat×Bool)}{T:Nat->p N}{cP:aA}{gs:Array ak}{aO:p Nat}{cf:p Prop}{off:Nat}{op:BinOp}{aC:Array ap}{ab:p Prop}{br:p ap}{az:a5}{ty:av}{val:Nat->Nat->Z}{B:p Z}{bh:au}{ag:Array aA}{ao dd:p an}{res:ι->z}{aL:ι->p an}
variable {CT:p (Nat×bK)}{ar:p ig}{be:fq}{ad:p (Nat×bv)}{a4:bv}
namespace R1
def kn(a:p Int)(d:p ca)(e b:Nat):p ca×Nat:=
 if(hy (d.getD b (0,[])) a).2.length=0 then(n9 d e b,e-1)else(d.set b (hy (d.getD b (0,[])) a),e)
def abj{cp}{bR}{d}(k:A<=c d)(a:e<A)(j:(d.take A).Pairwise λb p=>b.1<p.1)(n:∀b∈d.take A,b.2≠[])(o:(d.getD e (0,[])).1=bR):
  gE (λb:ca=>b.1==bR) (d.take A)=e/\(kn cp d A e).1.length=c d/\(kn cp d A e).2<=A/\(kn cp d A e).1.take (kn cp d A e).2=fd bR cp (d.take A):=by
 have i:(d.take A).getD e (0,[])=d.getD e (0,[]):=by simp[ik,a]
 obtain⟨k1,g⟩:=Lc (cp:=cp) (bR:=bR) (ab:=d.take A) (e:=e) j n dA (i▸o);rw[i]at g;rw[g];unfold kn;split
 .refine⟨k1,SO k a,by omega,?_⟩;unfold n9;have l:c ((d.take A).eraseIdx e)=A-1:=Ni;simp only;exact List.take_left' l
 exact⟨k1,by simp,bC _,by rw[AB]⟩
section
variable {r:ai V}
def U6(b)(k):Y r 127 [fz b,ax (.O [.int .i64 k])] [] (bi (b.1==k)) []:=by refine Y.K func127 rfl λd=>?_;exact aZ a v (g.aw a)
abbrev lN(b:p ca)(a:Nat):ca:=b.getD (0+(a:Int).toNat) a1.I
abbrev Lb(d:p ca)(b:Nat)(a:p Int):an:=.cells 91 [.c (.int .i64 (lN d b).1),.c (ll (hy (lN d b) a))]
end
structure wD(Q:dT)(Kj w:Nat)(d:p ca)(A:Nat):Prop where
 fD:w<=c Q.2.2
 len:c d=Kj
 gl:A<=Kj
 cX:d.take A=(kq Q w).1.1
 b8:∀R∈d,c R.2<=4000000
def wD.next{Q}{u}{d}(D:oS i Q)(e:wD Q u w d A)(v:w<c Q.2.2):
  ∃g,g<A/\gE (λj:ca=>j.1==Q.2.2.getD w 0) (d.take A)=g/\wD Q u (w+1) (kn Q.2.1 d A g).1 (kn Q.2.1 d A g).2:=by
 have k:=D.hV w;obtain⟨B,l,t,I⟩:=L6 (Q:=Q) (w:=w) e.fD;have r:Q.2.2.drop w=Q.2.2.getD w 0::Q.2.2.drop (w+1):=dA;obtain⟨j,b,s⟩:=k.hn (Q.2.2.getD w 0) (by rw[t,r];simp);rw[<-e.cX]at b;obtain⟨g,n,z⟩:=hD b;rw[List.length_take]at n;have p:g<A:=y;have E:(d.getD g (0,[])).1=Q.2.2.getD w 0:=by rw[<-s,<-z];simp[bI (show g<c d by omega)]
 have x:∀j∈d.take A,j.2≠[]:=λj b=>by rw[e.cX]at b;have:=(k.c1 j b).len.1;grind
 obtain⟨k1,a',C,F⟩:=abj (cp:=Q.2.1) (by rw[e.len];exact e.gl) p (by rw[e.cX];exact k.dU) x E;refine⟨g,p,k1,v,by rw[a',e.len],fF C e.gl,?_,λj b=>?_⟩
 .rw[F,e.cX];rw[show kq Q (w+1)=jq (kq Q w)from a];unfold jq;rw[t,r,l]
 unfold kn at b;split at b
 .unfold n9 at b;simp only[gk,fl]at b;rcases b with b|b|b
  .exact e.b8 j (hc (List.mem_of_mem_eraseIdx b))
  .exact bJ
  exact e.b8 j (sj b)
 rcases Aq b with b|b
 .exact e.b8 j b
 rw[b];have o:d.getD g (0,[])∈d:=M;exact fF (kz _ _) (e.b8 _ o)
section
variable {r:ai V}
def Ii(d)(i:c d<=4000000):Y r 46 [aB.S d] [] (cy 0 (.S (c d) 1 0 (c d))) [jC (c d) d]:=by
 refine Y.K func46 rfl λj=>?_;refine aZ a v (g.ek bd a a a a a a λb e=>?_);cases b with
 |true=>
  obtain rfl:=jy (e rfl);refine aZ a v (g.fb 2 3 1 (aB.fn []) a ?_);exact E2
 |false=>
  refine gI [] 7 a v (g.dJ 5 3 1 (aB.fn []) a ?_);refine aZ a ⟨a,a,show(0+c d)*8<=_ by omega⟩ (g.ba [jC (c d) d] a ?_ ?_)
  .simp[bt,ce]
  exact Fc
abbrev Hq(a:dT)(b:Bool):p O:=[.R 2 (.S (c a.1.1) 2 0 (c a.1.1)),.R 3 (.S (c a.1.2.1) 2 0 (c a.1.2.1)),cJ a2 a.1.2.2,cJ aB (aB.af (c a.2.1) (aB.fn a.2.1)),.R 4 (.S (c a.2.2) 1 0 (c a.2.2))]
abbrev Hp(a:dT)(b d e g:Bool):p an:=
 match b,d,e,g with
 |false,_,_,_=>[gd a,.cells 30 l7]
 |true,_,m,_=>[gd a,.cells 30 l7,.h 91 2 (c a.1.1) (a1.fn a.1.1),.h 106 2 (c a.1.2.1) (bj.fn a.1.2.1)]
 |true,_,f,m=>[gd a,.cells 30 l7,.h 91 2 (c a.1.1) (a1.fn a.1.1),.h 106 2 (c a.1.2.1) (bj.fn a.1.2.1),jC (c a.2.2) a.2.2]
 |true,_,f,f=>[gd a,.cells 30 (Hq a f),.h 91 2 (c a.1.1) (a1.fn a.1.1),.h 106 2 (c a.1.2.1) (bj.fn a.1.2.1),jC (c a.2.2) a.2.2]
abbrev aeD(a:dT)(b:Nat):z:=
 [aG 0 0,b9 a.1,.q (.agg [.R 2 (.S (c a.1.1) 2 0 (c a.1.1)),.R 3 (.S (c a.1.2.1) 2 0 (c a.1.2.1)),cJ a2 a.1.2.2]),aG 0 3,aB.S a.2.1,aB.S (aB.af (c a.2.1) (aB.fn a.2.1)),aG 0 4,aB.S a.2.2,cy 4 (.S (c a.2.2) 1 0 (c a.2.2)),
  .q (.agg (Hq a f)),.any].getD b .any
def Xg(b)(j:dN b.1)(e:c b.2.1<=4000000)(l:c b.2.2<=4000000):Y r 44 [gm b] [] (.q (.agg [.R 0 (.S (c b.1.1) 2 0 (c b.1.1)),cJ bj b.1.2.1,cJ a2 b.1.2.2,cJ aB b.2.1,.R 1 (.S (c b.2.2) 1 0 (c b.2.2))])) [.h 91 2 (c b.1.1) (a1.fn b.1.1),jC (c b.2.2) b.2.2]:=by
 refine Y.bp bd func44 rfl rfl rfl λo=>?_
 have x:a8 r [(80,k4 [b9 b.1] [] (.q (.agg [.R 0 (.S (c b.1.1) 2 0 (c b.1.1)),.R 1 (.S (c b.1.2.1) 2 0 (c b.1.2.1)),.c (.S m 2 (c b.1.2.2) (a2.fn b.1.2.2))])) [.h 91 2 (c b.1.1) (a1.fn b.1.1),.h 106 2 (c b.1.2.1) (bj.fn b.1.2.1)]),
   (46,df (eX aB) (λd=>aB.S d) λd=>[c d<=4000000])]:=.cons (l5 (o8 b.1 j.a2 j.bs j.a7 j.bz j.aM)) (.cons (.bb λd k=>B9 d k) .nil)
 have iq:a8 r [(46,k4 [aB.S b.2.2] [] (cy 0 (.S (c b.2.2) 1 0 (c b.2.2))) [jC (c b.2.2) b.2.2])]:=.cons (l5 (Ii b.2.2 l)) .nil;refine bf x [(1000001,f)] a v ?_;refine g.cx b5 (aeD b) (mv (Hp b) 2 5 8 10) a a a a
  ⟨.aY,.aY,cn.ay a a a a a a (ee (bg:=[]) bd x (ao:=h _) a E),.aY,.aY,cn.eP a a a a a a (aT.eval (bg:=[]) bd x a (by exact⟨aB.U _,by rw[aB.E];exact e⟩)),.aY,.aY,cn.eR a a a a a a (ee (bg:=[]) bd iq (ao:=h _) a bJ),.aY,
   cn.eS a a a a a a (ee (bg:=[]) bd x (ao:=h _) a v),v⟩ ?_
 intro z I;show g r _ _ _ _ _ (Hp b (z 2) (z 5) (z 8) (z 10));rw[I 2 b',I 5 b',I 8 b',I 10 b'];refine qI x [] 1 a v (g.bw 3 a a a E E (g.ba [gd b,.cells 30 [.R 2 (.S (c b.1.1) 2 0 (c b.1.1)),cJ bj b.1.2.1,cJ a2 b.1.2.2,cJ aB b.2.1,.R 4 (.S (c b.2.2) 1 0 (c b.2.2))],.h 91 2 (c b.1.1) (a1.fn b.1.1),.x,jC (c b.2.2) b.2.2] a ?_ ?_))
 .simp[aB.E,hv]
 refine g.bd () [2,4] ?_ (λn i=>absurd i E);simp
abbrev tO:an:=.cells 30 l7
abbrev vY(i g:Nat)(d:p eE)(e:p (Int×Int))(b a:p Int):an:=.cells 30 [.R 2 (.S i 2 0 g),cJ bj d,cJ a2 e,cJ aB b,.R 3 (.S (c a) 1 0 (c a))]
abbrev aeM(d:p ca)(g b:Nat)(a:p Int)(e:Nat):z:=
 [aG 4 0,aG 4 0,aG 4 0,aG 4 0,cy 2 (.S (c d) 2 0 g),S b,cy 2 (.bx (c d) 2 (0+(b:Int).toNat) 0),fz (lN d b),
  aG 4 0,aG 4 0,aG 4 3,aB.S a,fz (hy (lN d b) a),aG 6 0,.any].getD e .any
abbrev La(j:dT)(d:p ca)(i n:Nat)(e:p eE)(g:p (Int×Int))(b a:p Int)(k l:Bool):p an:=
 match k,l with
 |false,_=>[gd j,tO,p7 d,jC (c a) a,vY (c d) i e g b a,.x]
 |true,m=>[gd j,tO,p7 d,jC (c a) a,vY (c d) i e g b a,.x,.cells 91 [.c (.int .i64 0),cB]]
 |true,f=>[gd j,tO,p7 d,jC (c a) a,vY (c d) i e g b a,.x,Lb d n b]
set_option maxRecDepth 20000 in
def Wx(s)(bR)(d)(A e)(dw)(l)(cp b)(u:A<=c d)(w:c d<=4000000)(t:e<A)(E:gE (λk:ca=>k.1==bR) (d.take A)=e)(C:∀k∈d,c k.2<=4000000):
  bk (ι:={i:Nat->p N // bt (c d) i (a1.fn (kn cp d A e).1)}) r 85 [aG 4 0,S bR] [gd s,tO,p7 d,jC (c b) b,vY (c d) A dw l cp b] (λ_=>.Q []) (λi=>[gd s,tO,.h 91 2 (c d) i.1,jC (c b) b,vY (c d) (kn cp d A e).2 dw l cp b,.x,Lb d e cp]):=by
 refine bk.bR func85 rfl rfl rfl (g.aW ?_);refine bP [(1000001,f)] a v (g.freeze 3 5 a a a ?_);refine cr a v (g.aF (UO d A u w 127 [.int .i64 bR] (λk=>k.1==bR) λk _=>U6 k bR) [2] a ?_);rw[E];have n:lN d e=d.getD e (0,[]):=nK;have j:lN d e∈d:=by rw[n];grind
 have x:a8 r [(128,eY [fz (lN d e),aB.S cp] (fz (hy (lN d e) cp)))]:=.cons (fo (Vp (lN d e) cp (C _ j))) .nil;have cv:0<=(e:Int)/\(e:Int)<((A:Nat):Int):=y;have D:c d=c d/\0+(e:Int).toNat<c d:=⟨rfl,by omega⟩
 refine bP [(1000002,f)] a v ?_;refine g.cx b5 (aeM d A e cp) (o_ (La s d A e dw l cp b) 13 14) a a a a
  ⟨.bI,.bI,.bI,.bI,.bI,.bI,.ds bd x (cv:=by exact cv),.ds bd x (cv:=by exact D),.bI,.bI,.bI,.bI,.ds bd x (cv:=by exact a),
   cn.gA a a (ee (bg:=[]) bd x (ao:=h _) a v),cn.gB a a (ee (bg:=[]) bd x (ao:=h _) a v),v⟩ ?_
 intro z B;show g r _ _ _ _ _ (La s d A e dw l cp b (z 13) (z 14));rw[B 13 b',B 14 b'];unfold kn;by_cases o:(hy (lN d e) cp).2.length=0
 .rw[bs (by rw[<-n];exact o)];refine bP [(29,f)] a ?_ ?_
  .simp only[U,a7,o];exact bw
  exact g.aF (T7 d A e u t w) [2] a (cr a v ⟨⟨_,bt.same⟩,.inr a,a,a,_,_,_,a,a,a,v⟩)
 rw[bm (by rw[<-n];exact o)];refine bP [(29,m)] a ?_ ?_
 .simp only[U];exact⟨v,by omega,by omega,by omega,by simpa using o⟩
 refine⟨⟨lm (0+(e:Int).toNat) [.int .i64 (lN d e).1,ll (hy (lN d e) cp)] (a1.fn d),?_⟩,.inr a,a,a,_,_,_,a,a,a,v⟩;have:=a1.cT d e (hy (lN d e) cp) (c d) (bC _);rw[n]at *;rw[show 0+(e:Int).toNat=e by omega];exact this
def T8(d)(b)(A:c b<=4000000):
  Y r 86 [cy 0 (.S (c (d::b)) 1 0 (c (d::b))),S 0,S 1] [jC (c (d::b)) (d::b)] (cy 0 (.S (c (d::b)) 1 0 (c b))) [jC (c (d::b)) (b++[0])]:=by
 refine Y.K func86 rfl λz=>?_;refine bP [(16,m),(1000006,f)] a EH ?_;have k:bS (c (d::b)) (h 0)-bS 0 q+(bS (c (d::b)) q-bS 0 (h 1))=c b:=wx;rw[k];refine g.region ?_;refine gI [] 4 a v ?_;refine g.aP (a0.hY bd a a a a a a a a a y bJ (by simp<;>omega)) a a ?_;refine g.aP (a0.eT bd a a a a a a ?_) a a ?_
 .simp
 refine bP [(1000007,f)] a v (g.gO 0 (aB.fn (b++[0])) a (λ_ _=>rfl) (λw idx e x n t=>?_) ?_)
 .refine⟨n,?_,λ_ j=>j⟩;rw[<-t];congr 1;unfold nH qC;simp[fj]at e;have o:bS (c b+1) (h 0)-bS 0 q=0:=rfl;have l:bS 0 (h 1)=1:=rfl;have p:bS (c b+1) q=c b+1:=rfl;simp only[fj,c1,o,l,p];have s:aB.fn (b++[0]) idx=aB.a8 ((b++[0]).getD idx 0):=rfl;rw[s];by_cases j:idx<c b
  .have i:(b++[0]).getD idx 0=b.getD idx 0:=dA;have u:aB.fn (d::b) (0+1+(idx-0))=aB.a8 (b.getD idx 0):=by rw[show 0+1+(idx-0)=idx+1 by omega];rfl
   rw[bm y,bs y,i,<-u]
  obtain rfl:idx=c b:=y;have i:(b++[0]).getD (c b) 0=0:=E;rw[bs y,i];rfl
 exact Pm
end
def zc(b:Int)(a:dT):dT×Bool:=if g_ b a=f then(jq a,qq a)else(kS,m)
def Xl(i)(k)(o:pT k)(p:dN k.1):Y (ai.aT V) 43 [S i,gm k] [] (jW (zc i k).1 (zc i k).2) []:=by
 refine Y.bp bd func43 rfl rfl rfl λR=>?_;have u:a8 (ai.aT V) [(37,xv)]:=.cons El .nil;have D:=p.a2;have C:=o.fI;unfold zc;cases l:g_ i k with
 |false=>
  refine bf u [(10,f)] a ?_ ?_
  .simp only[U,a1.E,a1.U,bj.E,bj.U,a2.E,a2.U,aB.E,aB.U,l,o,ba,a9,il]
  exact Ou
 |true=>
 rw[bs a];have J:=ze.1 l;refine bf u [(10,m)] a ?_ ?_
 .simp only[U,a1.E,a1.U,bj.E,bj.U,a2.E,a2.U,aB.E,aB.U,l,o,ba,a9,gj]
 refine g.aF (Xg k p o.fK o.fI) [] a ?_;obtain⟨b,d,K⟩:=k;cases K with
 |nil=>
  have A:(jq (b,d,[]),qq (b,d,[]))=((b,d,[]),m):=rfl;rw[A];refine bP [(17,f)] a E (g.bw 2 a a a E E (g.bw 3 a a a E E (g.cr () [] ?_ fI)));simp[hv]
 |cons e j=>
  have F:wD (b,d,e::j) (c b.1) 0 b.1 (c b.1):=⟨gX _,rfl,bC _,by simp[kq],p.bs⟩
  obtain⟨n,t,M,s⟩:=F.next J E;have x:c j<=4000000:=by have:c j+1<=4000000:=C;omega
  refine bP [(17,m)] a ?_ ?_
  .simp<;>omega
  refine g.cJ (Wx (b,d,e::j) e b.1 (c b.1) n b.2.1 b.2.2 d (e::j) (bC _) D t M p.bs) a a a a E a ?_;rintro⟨B,z⟩;refine cr a v (g.aF (T8 e j x) [3] a (cr a v ?_));have O:(kn d b.1 (c b.1) n).1.length=c b.1:=s.len;have Q:(kn d b.1 (c b.1) n).2<=c b.1:=s.gl;have I:(jq (b,d,e::j)).1.1=(kn d b.1 (c b.1) n).1.take (kn d b.1 (c b.1) n).2:=s.cX.symm;refine g.bw 2 a a a bw bw (g.bw 3 a a a E E (g.cr () [] ?_ fI));generalize kn d b.1 (c b.1) n=N at *;simp only[U.Y,U,I,ba,a9];and_intros<;>first|exact bt.same|rfl|(simp;omega)|skip
  .intro w r;have:=z w y;simp[hv,this,cY.fn,gr,al,ik,r,dH]
  intro w r;show aB.a8 ((j++[0]).getD w 0)=aB.a8 (j.getD w 0);simp[List.getElem?_append,r]
def AF{k}{d}{b}(g:∀i,i<b->d.getD i 0<k)(e:b<c d->k<=d.getD b 0):∀a,a<=c d->(ft k d a).2=decide (b<a)
 |0,_=>by simp[ft]
 |a+1,p=>by
  have n:=AF g e a y;rw[wY y];generalize ft k d a=l at *;unfold gb;by_cases o:b<a
  .grind
  by_cases j:b=a
  .subst j;have:=e y;grind
  have:=g a y;grind
def RD{k}{d}{a}(g:∀j,j<a->d.getD j 0<k)(b:a<c d->k<=d.getD a 0)(i:e<c d):
  (ft k d (e+1)).1=(ft k d e).1++(if e=a then[k]else[])++(if d.getD e 0≠k then[d.getD e 0]else[]):=by
 have o:=AF g b e y;rw[wY i];generalize ft k d e=n at *;unfold gb;by_cases p:a<e
 .grind
 by_cases l:a=e
 .subst l;have:=b i;grind
 have:=g e y;grind
def ZZ{k}{d}{a}(e:∀b,b<a->d.getD b 0<k)(g:a<c d->k<=d.getD a 0)(j:a<=c d):e4 d k=(ft k d (c d)).1++(if a=c d then[k]else[]):=by
 have:=AF e g (c d) (bC _);have i:ft k d (c d)=d.foldl (gb k) ([],m):=by unfold ft;rw[c9]
 unfold e4;rw[<-i];grind
section
variable {r:ai V}
def UI(d)(j)(ah)(i:Int->Bool)(w:∀k,k∈d->Y r j [S k,ax (.O ah)] [] (bi (i k)) []):
  Y r 107 [aB.S d,ax (.fn (.func j) [] [.O ah])] [] (S (gE i d)) []:=by
 refine Y.K func107 rfl λu=>?_;have z:=u.S 0 a;refine aZ a v (g.aN 0 (λb=>b<=c d/\∀e,e<b->i (d.getD e 0)=m) (λb:Nat=>[(0,aB.S d),(1,ax (.fn (.func j) [] [.O ah])),(7,S (c d)),(8,S b)]) (λ_=>[]) (λb=>c d-b) 0 a E a v a ⟨by omega,by omega⟩ ?_);rintro b ⟨s,l⟩;by_cases p:b<c d
 .have t:d.getD b 0∈d:=M;have n:d.getD (b:Int).toNat aB.I=d.getD b 0:=M;refine a6 [(9,f)] a pJ ?_;rw[n];refine g.aF (w _ t) [] a ?_;cases x:i (d.getD b 0)with
  |true=>
   refine a6 [(16,f)] a E (g.aX (bT.zero a ?_));simp[s4 p x l]
  |false=>
   refine a6 [(16,m)] a oJ (g.aB (b+1) a E v ?_ y);grind
 refine a6 [(9,m)] a bX (g.aD ?_);refine aZ a v (g.aw a ?_);simp[s5 (o:=d) (I:=0) (λe A=>l e y)]
def VP(A k):Y r 119 [S A,ax (.O [.int .i64 k])] [] (bi (decide (k<=A))) []:=by refine Y.K func119 rfl λb=>?_;exact aZ a v (g.aw a)
abbrev XL(a:p Int)(b:Int)(d:Nat):bH:=[(0,aB.S a),(3,ax (.O [.int .i64 b])),(5,S d)]
def VQ(d)(k)(F:c d<=100000000):Y r 79 [aB.S d,S k] [] (aB.S (e4 d k)) []:=by
 refine Y.K func79 rfl λD=>?_;refine a6 [(1000001,f)] a v (g.freeze 3 0 a a a ?_);refine aZ a v (g.aF (UI d 119 [.int .i64 k] (λn=>decide (k<=n)) λn _=>VP n k) [] a ?_);obtain⟨b,A,x,w,I⟩:∃b:Nat,b<=c d/\(∀p,p<b->d.getD p 0<k)/\(b<c d->k<=d.getD b 0)/\gE (λn=>decide (k<=n)) d=if b<c d then(b:Int)else -1:=by
  rcases yn (λn=>decide (k<=n)) d with⟨s,i⟩|⟨e,l,s,i,aa⟩
  .refine⟨c d,bC _,λp B=>?_,λi=>absurd i (wS _),by rw[s,bm (wS _)]⟩;have:=i (d.getD p 0) M;simp at this;grind
  refine⟨e,by omega,λp B=>?_,λ_=>?_,by rw[s,bs l]⟩
  .have:=i (d.getD p 0) (by grind[List.mem_take_iff_getElem]);simp at this;grind
  grind
 rw[I];apply g.cj (XL d k b) [.x]
 .intro du;by_cases u:b<c d
  .rw[bs u];exact a6 [(13,m),(1000004,f)] a E kv
  rw[bm u];obtain rfl:b=c d:=y;exact a6 [(13,f),(1000004,f)] a E kv
 refine a6 [(1000005,f)] a v (g.bP 6 3 1 a a ?_);refine aZ a v ?_;refine g.aN 2 (λe=>e<=c d) (λe:Nat=>[(0,aB.S d),(3,ax (.O [.int .i64 k])),(5,S b),(6,.q (.aq (.r 1 1 (ft k d e).1.length (aB.fn (ft k d e).1)))),(16,aB.S d),(17,S (c d)),(18,S e)])
  (λe=>[.x,.r 3 1 (ft k d e).1.length (aB.fn (ft k d e).1)]) (λe=>c d-e) 0 a ?_ a ?_ a y ?_
 .simp[ft]
 .simp[ft]
 intro e l;have C:=wX k d e l;by_cases i:e<c d
 .have j:=RD x w i;have ae:d.getD (e:Int).toNat aB.I=d.getD e 0:=rfl;generalize ft k d e=o at *;have J:c o.1<=e+1:=y;generalize d.getD e 0=t at *;by_cases gZ:e=b<;>by_cases iE:t=k
  .rw[bs gZ,bm zZ,hY]at j;have I:=aB.a0 o.1 k;refine bP [(19,f),(25,f),(32,m)] a zK (g.aB (e+1) a ?_ ?_ i y)
   .rw[j];simp;exact I
   rw[j];simp;exact I
  .rw[bs gZ,bs zZ]at j;have I:=aB.eW o.1 k t;refine bP [(19,f),(25,f),(32,f)] a zK (g.aB (e+1) a zD ?_ i y);exact zD
  .rw[bm gZ,bm zZ,hY,hY]at j;refine bP [(19,f),(25,m),(32,m)] a zK (g.aB (e+1) a ?_ ?_ i y)
   .rw[j];simp
   rw[j];simp
  rw[bm gZ,bs zZ,hY]at j;have I:=aB.a0 o.1 t;refine bP [(19,f),(25,m),(32,f)] a zK (g.aB (e+1) a zD ?_ i y);exact zD
 obtain rfl:e=c d:=y;have z:=ZZ x w A;rw[z];generalize ft k d (c d)=o at *;refine bP [(19,m)] a E (g.aD ?_);by_cases gZ:b=c d
 .rw[bs gZ];have I:=aB.a0 o.1 k;refine bP [(41,f)] a PA (g.aw a ?_);simp;exact I
 rw[bm gZ,hY];refine bP [(41,m)] a PA (g.aw a ?_);simp
end
def Kp{i}{d}:∀(a b:p bE),b.Nodup->(a.foldl (fb i d) b).Nodup
 |[],b,e=>e
 |g::a,b,e=>by rw[j7];refine Kp a _ ?_;unfold fb;grind
def acs(i)(o)(d):(gu i o d).Nodup:=Kp _ _ List.nodup_nil
theorem Li{d}{l X}:X∈fB d l↔X=l∨X∈d:=by
 induction d with
 |nil=>simp[fB]
 |cons b e a=>simp[fB];split<;>simp[a,or_left_comm,or_assoc]
def abr{d}{l}(g:d.Pairwise λa b=>a.1<b.1)(e:∀i∈d,i.1≠l.1):(fB d l).Pairwise λa b=>a.1<b.1:=by
 induction d with
 |nil=>simp[fB]
 |cons a p j=>
  obtain⟨o,n⟩:=iA.1 g;have k:=e a i';simp[fB];grind[List.pairwise_cons,Li]
def Kd:∀(d e:p cW),e.Pairwise (λa b=>a.1<b.1)->d.Pairwise (λa b=>a.1≠b.1)->(∀a∈d,∀b∈e,b.1≠a.1)->(d.foldl fB e).Pairwise λa b=>a.1<b.1
 |[],_,g,_,_=>g
 |a::d,e,g,i,j=>by obtain⟨d1,d2⟩:=iA.1 i;refine Kd d _ (abr g (j a i')) d2 λn l b k=>?_;grind[Li]
theorem Ke(i)(dq):kl i dq=(dq.map (gO i)).foldl fB []:=by unfold kl;rw[List.foldl_map];rfl
theorem Kf{a:p bE}(b:cK i=f)(d:∀n∈a,cC n=f)(g:a.Nodup):(a.map (gO i)).Pairwise λo r=>o.1≠r.1:=by rw[wQ];refine List.Pairwise.imp_of_mem (λ{x j} k l s e=>s ?_) g;exact aaB b (d x k) (d j l) e
theorem KI{bR}{dq}(a:cK i=f)(j:∀b∈dq,cC b=f)(x:dq.Nodup)(s:c dq<=4):tj bR i dq=kN bR i dq:=by
 show(bR,l4 (dq.map (gO i)))=(bR,kl i dq)
 grind[abq,Kf,Ke]
theorem KJ{bR}{dq}(b:cK i=f)(j:∀l∈dq,cC l=f)(e:dq.Nodup)(p:1<=c dq)(o:c dq<=4):h7 i (kN bR i dq)=decide (1<=bR/\bR<=99):=by
 have s:c (kl i dq)=c dq:=Db i dq;rw[oX,Dr,bA];constructor
 .exact λd=>d.db
 intro d;refine⟨d,b,by show 1<=c (kl i dq)/\_;rw[show(kN bR i dq).2=kl i dq from a];omega,λn g=>?_,?_⟩
 .obtain⟨k,x,rfl⟩:=aau (show n∈kl i dq from g);have:=aa7 (j k x);simp[right,this]
 show (kl i dq).Pairwise _;rw[Ke];exact Kd _ _ List.Pairwise.nil (Kf b j e) E
def Dt(i):∀e a(b:p bE),c b<=e->iv i e a b=(aD ((c b+3) / 4)).map λd:Nat=>kN (a+d) i (gC b d)
 |0,a,b,k=>by have:c b=0:=y;exact bJ
 |e+1,a,b,k=>by
  simp[iv];by_cases g:0<c b
  .rw[bs g,Dt i e (a+1) (b.drop 4) M];have j:(c b+3) / 4=(c (b.drop 4)+3) / 4+1:=M;rw[j,wM,mg,List.map_map];congr 1
   .simp[gC]
   refine wK λd _=>?_;show kN (a+1+(d:Nat)) i (((b.drop 4).drop (4*d)).take 4)=kN (a+((d+1:Nat):Int)) i ((b.drop (4*(d+1))).take 4);grind[List.drop_drop]
  grind
def Ho{d}(e:∀a∈d,cC a=f)(b:d.Nodup)(i:w<(c d+3) / 4):(∀a∈gC d w,cC a=f)/\(gC d w).Nodup/\1<=c (gC d w)/\c (gC d w)<=4:=
 ⟨λa g=>e a (sj (hc g)),(b.sublist (List.drop_sublist _ _)).sublist (List.take_sublist _ _),by simp[gC];omega,by simp[gC];omega⟩
def Jo{b}{d}(o:cK i=f)(e:∀p∈d,cC p=f)(a:d.Nodup)(g:w<(c d+3) / 4):nk i b d w=(decide (1<=dz b+(w:Int)/\dz b+(w:Int)<=99)&&!(c b.1+w==20)):=by obtain⟨j,k,l,n⟩:=Ho e a g;unfold nk l1;grind[KI,KJ]
def aap{b}{a:p bE}(d:cK i=f)(r:∀v∈a,cC v=f)(o:a.Nodup)(u:∀e,e<(c a+3) / 4->nk i b a e=f):jn i b a ((c a+3) / 4)=iv i (c a) (dz b) a:=by
 rw[Dt i _ _ _ (bC _)];refine wK λe g=>?_;have g:=sn.1 g;obtain⟨j,k,n,l⟩:=Ho r o g;have t:=u e g;have s:h7 i (kN (dz b+(e:Int)) i (gC a e))=f:=by rw[KJ d j k n l];rw[Jo d r o g]at t;grind
 unfold l1;rw[KI d j k l,bs s]
def nV.jG{i}{b}(d:nV i b):1<=dz b/\dz b<=100:=by
 unfold R1.dz;split
 .omega
 rename_i a;have:=(d.c1 _ (CJ a (0,[]))).db;omega
def ZW(i)(b)(a)(o):qv i b a o=D2 i b a o:=by
 unfold qv D2;by_cases j:hS i b=f/\(a=1∨a=2)/\dR o=f
 .rw[bs j,bs ⟨j.1,by omega,j.2.2⟩];have g:=vT.1 j.1;have z:=g.jG;have K:c b.2.2<=9:=by have:=g.e8;simp[g6,cF,bA]at this;omega
  have I:=g.len;have x:=(vS (i:=i) (d:=e3 b.1) (r1 j.2.2)).1;have t:=acs i o (e3 b.1);have s:c (pm i b o)=(c (gu i o (e3 b.1))+3) / 4:=by unfold pm;rw[Dt _ _ _ _ (bC _)];simp
  have B:pm i b o=iv i (c (gu i o (e3 b.1))) (dz b) (gu i o (e3 b.1)):=rfl;unfold px;simp only;generalize gu i o (e3 b.1)=d at *;obtain⟨N,E,O,D⟩:=D8 (nk i b d) ((c d+3) / 4) 0;generalize mP (nk i b d) ((c d+3) / 4) 0=n at *;have C:∀e,e<(c d+3) / 4->nk i b d e=(decide (1<=dz b+(e:Int)/\dz b+(e:Int)<=99)&&!(c b.1+e==20)):=λe l=>Jo g.key x t l;by_cases p:n<(c d+3) / 4
  .rw[bs p];have v:=D y;rw[C n p]at v;have k:fJ i b o=f:=by simp[fJ,jz,bA,s];simp[An,dt,Ao,hd]at v;omega
   grind
  rw[bm p];obtain rfl:n=(c d+3) / 4:=y;have r:∀e,e<(c d+3) / 4->1<=dz b+(e:Int)/\dz b+(e:Int)<=99/\c b.1+e≠20:=λe l=>by grind
  have J:c b.1+(c d+3) / 4<=20:=by refine Nat.le_of_not_lt λF=>?_;exact(r (20-c b.1) y).2.2 y
  have M:dz b+(((c d+3) / 4:Nat):Int)-1<=99:=by
   rcases nZ ((c d+3) / 4)with A|A
   .grind
   have:=(r ((c d+3) / 4-1) y).2.1;omega
  by_cases w:20<dF b
  .rw[bs w];have k:fJ i b o=f:=Nl;grind
  rw[bm w];by_cases u:c b.2.2=9
  .rw[bs u];have k:fJ i b o=f:=Nl;grind
  rw[bm u];have k:fJ i b o=m:=by simp[fJ,Bool.or_eq_false_iff,dt,s];omega
  rw[k];simp only[hR,B,aap g.key x t λe l=>O e (gX _) l,il];rfl
 grind
theorem Lk{d}{l X}(a:X∈eu d l):X=l∨X∈d:=by
 induction d with
 |nil=>simpa[eu]using a
 |cons b g e=>
  simp only[eu]at a;grind
def abv{d}{l}(i:d.Pairwise λa b=>a.1<b.1):(eu d l).Pairwise λa b=>a.1<b.1:=by
 induction d with
 |nil=>simp[eu]
 |cons a n e=>
  obtain⟨k,g⟩:=iA.1 i;simp only[eu];split
  .rename_i s;refine iA.2 ⟨λo j=>?_,e g⟩;grind[Lk]
  grind[List.pairwise_cons]
def Jc:∀(d a:p fr),(∀b∈d,gv b=f)->(∀b∈a,gv b=f)->a.Pairwise (λa e=>a.1<e.1)->(∀b∈d.foldl eu a,gv b=f)/\(d.foldl eu a).Pairwise λa e=>a.1<e.1
 |[],a,_,i,g=>⟨i,g⟩
 |b::d,a,l,i,g=>Jc d (eu a b) (λk j=>l k (m6 _ j)) (λk j=>by grind[Lk]) (abv g)
theorem aaM{d}(g:∀k∈d,gv k=f)(l:d.Pairwise λb e=>b.1<e.1):kL d (c d)=f:=by
 refine fY.2 λj i=>?_;rw[cF];refine⟨g _ M,?_⟩;rcases nZ j with a|a
 .simp[a]
 rw[jz];exact E7
def ZY(a:p ca):kL (e3 a) (c (e3 a))=f:=by
 unfold e3;split
 .rename_i b;obtain⟨d,e⟩:=Jc (dP a) [] (List.all_eq_true.1 b) E List.Pairwise.nil;grind[aaM]
 rfl
def acE{d}(a:∀k∈d,c k.2<=4):c (dP d)<=4*c d:=by
 induction d with
 |nil=>simp[dP]
 |cons i n e=>
  have b:=e λj g=>a j (m6 _ g);have l:=a i i';simp only[dP,sm,dm,k0,fj]at b⊢;omega
def nV.j5{i}{b}(e:nV i b)(a:nT b):1<=dF b:=by have d:=sZ b.2.2 a.aM;unfold R1.dF;split<;>omega
def nV.dc{b}(a:nV i b)(d:nT b):FN i b:=by refine⟨a.key,?_,ZY _,a.e8,a.j5 d⟩;have:=acE λg e=>(a.c1 g e).len.2;have:=a.len;omega
def acA{b}{a}{o}(d:hS i b=f)(e:1<=a/\a<=2)(g:dR o=f):D2 i b a o=(if fJ i b o=f then b else hR i b a o,!fJ i b o):=bs ⟨d,e,g⟩
section
variable {r:ai V}[r.b']
abbrev pG(a:i1):an:=.cells 35 (gK 7 a.1 a.2.1 2)
abbrev B6(a:Nat):={b:gf×Nat // z_ a b}
def M4(e:Nat)(d:Nat->Int)(i)(a:i1)(j:Option (B6 i))(d3 iG g:Bool):p an:=
 match j with
 |none=>match iG with
  |false=>[ef e d i,fO]++g5 a++[pG a]
  |true=>[ef e d i,fO]++g5 a++[pG a,fO]
 |some b=>match d3,iG,g with
  |false,m,_=>[ef e d b.1.2,fO]++g5 a++[pG a]
  |false,f,_=>[ef e d b.1.2,fO]++g5 a++[pG a,fO]
  |true,m,_=>[ef e d b.1.2,fO]++g5 (cg 7 a b.1.1).1++[pG a]
  |true,f,m=>[ef e d b.1.2,fO]++g5 (cg 7 a b.1.1).1++[pG a,fO]
  |true,f,f=>[ef e d b.1.2,fO]++g5 (cg 7 a b.1.1).1++[pG a,pG (cg 7 a b.1.1).1]
abbrev BZ(a:i1):z:=.q (.agg (gK 7 a.1 a.2.1 2))
def aeB(i)(a:i1)(e:Option (B6 i))(d:Nat):z:=
 match e with
 |none=>[BZ a,aG 0 0,.any,.any,.any,.any,.any,aG 5 0,.any,.any].getD d .any
 |some b=>[BZ a,aG 0 0,lL b.1.1,.Q [.agg (gK 7 (cg 7 a b.1.1).1.1 (cg 7 a b.1.1).1.2.1 2),.aq (.c (.bool (cg 7 a b.1.1).2))],.Q [.agg (gK 7 (cg 7 a b.1.1).1.1 (cg 7 a b.1.1).1.2.1 2),.aq (.c (.bool (cg 7 a b.1.1).2))],
   BZ (cg 7 a b.1.1).1,bi (cg 7 a b.1.1).2,aG 5 0,.any,bi (cg 7 a b.1.1).2].getD d .any
abbrev DP:i1:=(kS,mU,CY,Cv)
def fP.zero:fP 0 DP:=⟨fi.nil,rfl,rfl⟩
def XX:∀a,a<1->([0,5,6,7]:p Nat)[a]?=h a:=λa b=>by grind
def fR(a:p gf):i1:=a.foldl (λd b=>(cg 7 d b).1) DP
def K6(T)(a):fR (T++[a])=(cg 7 (fR T) a).1:=by unfold fR;grind
def K5:∀b a,fP (c a) (fR a)->fP (c (a++b)) (fR (a++b))
 |[],a,e=>by grind
 |d::b,a,e=>by
  have g:fP (c (a++[d])) (fR (a++[d])):=by rw[K6,dm];exact e.do
  have:=K5 b (a++[d]) g;grind
def vH(T):fP (c T) (fR T):=K5 T [] fP.zero
def kR(b:Int)(a:i1):fs:=
 if b=0 then(7,a.1,a.2.1,a.2.2.1,[0])else if b=1 then(7,a.1,a.2.1,a.2.2.1.set 0 (10,(a.2.2.1.getD 0 (0,0)).2),a.2.2.2)else(7,a.1,a.2.1,a.2.2.1,a.2.2.2)
structure nN(i:Nat) where
 dL:p gf
 v:Int
 k1:Nat
 gm:c dL<=8
 hl:i<=k1
 gk:k1<=i+4002
abbrev nN.a{i}(a:nN i):fs:=kR a.v (fR a.dL)
def acD{aa}{T}(g:c T<=8):pU (kR aa (fR T)).2.1/\(kR aa (fR T)).2.2.2.1.length<=2/\(kR aa (fR T)).2.2.2.2.length<=2:=by have a:=vH T;have e:=a.a.b8 y;have b:=a.bk;have d:=a.b6;unfold kR;grind
set_option maxRecDepth 20000 in
def XD(A)(j:Nat->Int)(G:Bytes j)(i)(ah:i<=30000)(B:A<=1048576):
  bk (ι:=nN i) r 10 [aG 0 0] [ef A j i] (λbc=>.q (.agg (zv bc.a 1 2))) (λbc=>[ef A j bc.k1,hM bc.a.2.1]++BX bc.a.2.2.2.1 bc.a.2.2.2.2):=by
 refine bk.bE bd func10 rfl rfl rfl λau=>?_;refine aZ a v (g.aF (XG 7 b') [] a (aZ a v (g.a9 (hH A j G i 9 y B y) [0] a bl ?_)));rintro⟨ai,aq,ar⟩;refine aZ a v ?_;refine g.aN 5 (λbc:Nat×p gf×Nat=>bc.1+c bc.2.1<=8/\i<=bc.2.2/\bc.2.2<=i+1+500*c bc.2.1) (λbc=>[(0,aG 0 0),(2,aG 1 0),(3,aG 4 0),(5,S bc.1)])
  (λbc=>[ef A j bc.2.2,fO]++g5 (fR bc.2.1)++[pG (fR bc.2.1)]) (λbc=>bc.1) (ai.toNat,[],i+1) a ?_ a ?_ a ⟨by grind,by grind,by grind⟩ ?_
 .exact zQ
 .have n:fR []=DP:=rfl;simp[n]
 rintro⟨V,b,k1⟩ ⟨aM,P,ae⟩;simp only at aM P ae;have K:=vH b;have F:=K6 b;have J:∀k,pU (kR k (fR b)).2.1/\(kR k (fR b)).2.2.2.1.length<=2/\(kR k (fR b)).2.2.2.2.length<=2:=λk=>acD y;have C:∀k k1,i<=k1->k1<=i+4002->∃bc:nN i,bc.a=kR k (fR b)/\bc.k1=k1:=λk k1 x j=>⟨⟨b,k,k1,by omega,x,j⟩,rfl,rfl⟩
 by_cases aw:0<V
 .refine a6 [(15,f),(1000005,f)] a NC ?_;generalize av:fR b=l at *;refine g.g_ b5 (aeB k1 l) (mf (M4 A j k1 l) 3 7 8) (ma (B6 k1) 2) q a a a a a
   ⟨.fO,
   .fO,
   ew.iM a a a a a (λw bc=>by
    match bc with
    |0=>exact .inr (.inr rfl)
    |1=>exact .inr (.inr rfl)
    |2=>grind
    |3=>exact .inr (.inl rfl)
    |4=>exact .inr (.inl rfl)
    |5=>exact .inr (.inl rfl)
    |6=>exact .inr (.inl rfl)
    |7=>exact .inr (.inr rfl)
    |8=>exact .inr (.inr rfl)
    |9=>exact .inr (.inl rfl)
    |bc+10=>exact .inr (.inr rfl)) (λx=>by cases x<;>exact dx.dj (It A j G k1 y B) [0] rfl rfl rfl rfl rfl rfl rfl bl rfl bl),
   ew.gZ a a a a a (λw x=>by
    have ab:a8 r [(12,k4 [B0 7 l,lL w.1.1] (g5 l) (En 7 (cg 7 l w.1.1).1 (cg 7 l w.1.1).2) (g5 (cg 7 l w.1.1).1))]:=.cons (l5 (Is 7 l w.1.1 (c b) K y)) .nil
    cases x<;>exact ee (bg:=[]) bd ab (ao:=h _) rfl ⟨rfl,rfl⟩),
   .dT,
   .dT,
   .dT,
   ew.g1 rfl rfl rfl rfl (λt x=>by rcases t with _|bc<;>cases x<;>exact ee (bg:=[]) bd a8.nil (ao:=h _) rfl v),
   ew.g2 a a a a a a (λw=>ee (bg:=[]) bd a8.nil (ao:=h _) a v),
   .dT,v⟩ ?_
  intro t z ad u;have W:t.isSome=f:=(show t.isSome=z 2 from ad).trans (u 2 b');cases t with
  |none=>cases W
  |some bc=>
  obtain⟨⟨n,T⟩,N⟩:=bc;have aa:=N.hl;have Z:=N.gk;simp only at aa Z;show g r _ _ _ _ _ (M4 A j k1 l (h ⟨(n,T),N⟩) (z 3) (z 7) (z 8));rw[u 3 b',u 7 b',u 8 b'];have F:=F n;refine aZ a tV (g.aB (V-1,b++[n],T) a zQ ?_ ⟨by grind,by grind,by grind⟩ M);simp only[F];simp
 refine a6 [(15,m)] a NB (g.aD ?_);refine aZ a v (g.a9 (hH A j G k1 40 y B y) [0] a bl ?_);rintro⟨k,aj,ak⟩;have s:(fR b).2.2.1.length=2:=K.bk;have I:(fR b).2.2.2.length=2:=K.b6;by_cases L:k=0
 .obtain⟨bc,d,X⟩:=C 0 (k1+1) y y;obtain⟨O,Q,R⟩:=J 0;have o:=uY (r:=r) _ O y y;refine a6 [(29,f),(1000012,f)] a (by simp[L]) (g.bw 2 a a a E E (aZ a v (g.bQ o.tocD [] a a a a ?_ a a a bl a bl a ?_)))
  .simp only[kR,bs,U.Y,U,ba,a9];exact On
  exact E8
 by_cases D:k=1
 .obtain⟨bc,d,X⟩:=C 1 (k1+1) y y;obtain⟨O,Q,R⟩:=J 1;have o:=uY (r:=r) _ O y y;obtain⟨ag,an,Y⟩:∃x j,(fR b).2.2.1=[x,j]:=by
   match N:(fR b).2.2.1,s with
   |[x,j],_=>grind
  have H:bt 2 (hv 0 (lm 0 [.int .i64 10,.int .i64 ((fR b).2.2.1.getD 0 (0,0)).2] (a2.fn (fR b).2.2.1))) (a2.fn ((fR b).2.2.1.set 0 (10,((fR b).2.2.1.getD 0 (0,0)).2))):=by
   rw[Y];intro e bp
   match e,bp with
   |0,_=>rfl
   |1,_=>rfl
  refine a6 [(29,m),(33,f),(1000012,f)] a (by simp[D]) (g.bw 2 a a a E E (g.bw 3 a a a E E (aZ a v (g.bQ o.tocD [] a a a a ?_ a a a bl a bl a ?_))))
  .simp only[kR,bm (show¬(1:Int)=0 by decide),bs,U.Y,U,ba,a9];and_intros<;>first|exact bt.same|exact H|rfl|omega|exact s|exact I|exact s.symm|exact I.symm|grind|(simp only[sh];omega)
  exact E8
 obtain⟨bc,d,X⟩:=C k (k1+1) y y;obtain⟨O,Q,R⟩:=J k;have o:=uY (r:=r) _ O y y;refine a6 [(29,m),(33,m),(1000012,f)] a (by simp[L,D]) (g.bw 2 a a a E E (g.bw 3 a a a E E (aZ a v (g.bQ o.tocD [] a a a a ?_ a a a bl a bl a ?_))))
 .simp only[kR,bm L,bm D,U.Y,U,ba,a9];exact On
 exact E8
end
section
section
variable {r:ai V}[r.b']
structure ub where
 cA:nN 0
 fj:Bool
def ub.a(a:ub):fs:=if a.fj=f then(a.cA.a.1,(a.cA.a.2.1.1,a.cA.a.2.1.2.1,a.cA.a.2.1.2.2++[9]),a.cA.a.2.2)else a.cA.a
end
variable {r:ai V}
end
def D5(aa)(b):(kR aa b).2.1=b.1/\(kR aa b).2.2.1=b.2.1:=by unfold kR;grind
def fi.eu{b}(a:fi k b)(d:k<=1000000):pT b:=⟨a.bm.toj3.fS,by have:=a.cb;omega,by have:=a.cL;omega⟩
def nN.eu{i}(a:nN i):pT a.a.2.1:=by have b:=a.gm;rw[(D5 a.v (fR a.dL)).1];exact(vH a.dL).a.eu y
def ub.eu(a:ub):pT a.a.2.1:=by
 have b:=a.cA.eu;unfold ub.a;split
 .refine⟨b.tonU,b.fK,?_⟩;have d:=a.cA.gm;have g:=(vH a.cA.dL).a.cL;have e:=(D5 a.cA.v (fR a.cA.dL)).1;grind
 exact b
end R1
section
namespace R1
variable {r:ai V}[r.b']
abbrev Z_(b:cz)(a:Nat):Nat:=bS (c b.1) (h (a:Int))-bS 0 q
abbrev Z'(b:cz)(a:Nat):Nat:=bS (c b.1) q-bS 0 (h ((a:Int)+1))
abbrev lO(a:cz):Nat->p N:=fw (bS 0 q) (a1.fn a.1)
abbrev kH(b:cz)(a:Nat):Nat->p N:=fw (bS 0 (h ((a:Int)+1))) (a1.fn b.1)
end R1
end
namespace R1
section
variable {r:ai V}
def Vm(b)(d:dN b.1):Y r 21 [gm b,gm b] [] (bi f) []:=by refine Y.K func21 rfl λi=>?_;have e:a8 r [(47,eY [b9 b.1,b9 b.1] (bi f)),(22,xp)]:=.cons (fo (Vl b.1 d)) (.cons Eh .nil);refine bf e [(10,f),(17,f)] a ?_ (g.aw a);exact bJ
end
def FZ{d}(o:d.Pairwise (·<=·)):∀a,a<=c d->(fu d a).Pairwise (· < ·)/\∀g∈fu d a,0<a/\g<=d.getD (a-1) 0
 |0,_=>by simp[fu]
 |a+1,r=>by
  obtain⟨l,cc⟩:=FZ o a y;have k:∀i,i<a->d.getD i 0<=d.getD a 0:=λi p=>by have:=oZ.1 o i a y y p;grind
  rw[fu];split
  .rename_i e;refine⟨l,λg b=>⟨by omega,?_⟩⟩;have:=cc g b;have:=k (a-1) y;simp only[pX];omega
  rename_i e;have j:∀g∈fu d a,g<d.getD a 0:=λg b=>by have t:=cc g b;have s:=k (a-1) y;omega
  refine⟨o0.2 ⟨l,by simp,λg b u n=>?_⟩,λg b=>⟨by omega,?_⟩⟩
  .rw[gW]at n;subst n;exact j g b
  simp only[pX];rcases gk.1 b with b|b
  .have:=j g b;omega
  rw[gW]at b;omega
def acu(l):fV l=gF l.2:=by
 refine AS ?_ (CG List.Pairwise.nil) λa=>by rw[yx,Kc]
 unfold fV hG;exact(FZ (L3 _) _ (bC _)).1
abbrev acF(g e:av×Z)(d:dT)(b:cz)(a:p Int):p an:=kW g e++[gd d,.cells 30 l7,.x,gd (b,a,d.2.2),jT b]
def ab3{b}{a}{o}(d:g_ i b=f)(e:1<=a/\a<=2)(g:dR o=f):fU i b a o=if fJ i b.1 o=f then(b,m)else(rS i b a o,f):=by unfold fU rL;simp_all
def Xj(k A)(i)(b)(ct)(o)(j:pT b)(w:dN b.1)(J:nT b.1)(H:a7 .i64 ct):
  Y (ai.aT V) 41 [S i,gm b,S ct,bD.S o] (kW k A) (jW (fU i b ct o).1 (fU i b ct o).2) (kW k A):=by
 refine Y.bp bd func41 rfl rfl rfl λP=>?_;have n:a8 (ai.aT V) [(37,xv),(39,rl)]:=.cons El (.cons vZ .nil);have x:(b.1,b.2.1,b.2.2)=b:=rfl;have ao:=w.a2;cases s:g_ i b with
 |false=>
  have t:fU i b ct o=(kS,m):=by unfold fU rL;simp[s]
  rw[t];refine bf n [(19,f),(27,f),(31,f)] a ?_ ?_
  .simp only[U,a1.E,a1.U,bj.E,bj.U,a2.E,a2.U,aB.E,aB.U,x,s,j,il,ba,a9]
  exact nI
 |true=>
 by_cases F:1<=ct/\ct<=2
 rotate_left
 .have t:fU i b ct o=(kS,m):=by unfold fU rL;simp[F]
  rw[t];exact bf n [(19,m),(22,f),(27,f),(31,f)] a bJ nI
 have R:ct=1∨ct=2:=y;cases I:dR o with
 |false=>
  have t:fU i b ct o=(kS,m):=by unfold fU rL;simp[I]
  rw[t];rcases R with rfl|rfl
  .exact bf n [(19,m),(22,m),(27,m),(31,f)] a zP nI
  exact bf n [(19,m),(22,f),(27,m),(31,f)] a zP nI
 |true=>
 rw[ab3 s F I];have B:=ze.1 s;have ag:=vT.2 B.tonV;have aQ:=B.tonV.h0;have z:=Xb k A i b.1 ct o w j.tonU J H λu=>(vT.1 u).dc J;rw[ZW,acA ag F I]at z;apply g.cj [(0,S i),(2,S ct),(3,bD.S o),(5,aG 3 0),(8,aG 4 0)] (kW k A++[gd b,.cells 30 l7])
 .intro du;rcases R with rfl|rfl
  .exact bf n [(19,m),(22,m),(27,m),(31,m),(1000003,f)] a zP kv
  exact bf n [(19,m),(22,f),(27,m),(31,m),(1000003,f)] a zP kv
 refine cr a v (g.aF (IU b w j.fK j.fI) [] a (bP [(1000004,f)] a v (g.bw 5 a a a E E (cr a v (g.aF z [0,1,2] a ?_)))));cases X:fJ i b.1 o with
 |true=>
  exact bP [(45,f)] a E O_
 |false=>
 have an:=w.bz;have K:=aQ.dc (i:=i) (o:=o) (ct:=ct) (by have:=w9 1 B.dp λp Z=>(B.a7 p Z).1;omega) I X;have ah:(hR i b.1 ct o).2.1.length=c b.1.2.1+1:=by simp[hR]
 have aa:(hR i b.1 ct o).2.1.getD ((hR i b.1 ct o).2.1.length-1) (0,[])=gQ (dF b.1) i o:=by rw[ah];simp[hR,al]
 have T:=K.cZ (gQ (dF b.1) i o) M;have L:=v6 T.2;have ak:=tg (gQ (dF b.1) i o).2;have aj:=K.ej;have G:=j.fK;have Q:=Ch (r:=ai.aT V) (gQ (dF b.1) i o) y y;rw[acu]at Q;unfold rS;simp only[bm (show¬(m=f) by simp)];generalize hR i b.1 ct o=l at *;generalize gQ (dF b.1) i o=p at *;have ad:((c l.2.1:Int)-1).toNat=c l.2.1-1:=y;have W:l.2.1.getD ((c l.2.1:Int)-1).toNat bj.I=p:=by rw[ad];exact aa
 have C:a8 (ai.aT V) [(67,eY [iJ p] (aB.S (gF p.2)))]:=.cons (fo Q) .nil;refine bf C [(45,m)] a ?_ ?_
 .simp only[U,W,a7];and_intros<;>first|rfl|exact True.intro|omega
 generalize gF p.2=d at *;refine g.aN 8 (λe=>e<=c d) (λe:Nat=>[(8,aG 4 0),(10,aG 6 0),(57,aB.S d),(58,S (c d)),(59,S e)])
  (λe=>acF k A b l ((d.take e).foldl e4 b.2.1)) (λe=>c d-e) 0 a ?_ a ?_ a y ?_
 .simp
 .simp
 intro e ab;by_cases u:e<c d
 .have ae:d.getD (e:Int).toNat aB.I=d.getD e 0:=rfl;have N:=x' e4 b.2.1 u;have O:=qm b.2.1 (d.take e);rw[List.length_take]at O;generalize(d.take e).foldl e4 b.2.1=i7 at *;have D:a8 (ai.aT V) [(79,eY [aB.S i7,S (d.getD e 0)] (aB.S (e4 i7 (d.getD e 0))))]:=.cons (fo (VQ i7 (d.getD e 0) y)) .nil;refine bf D [(60,f)] a ?_ (g.aB (e+1) a E ?_ u y)
  .simp only[U,ae,a7,bA];exact qW
  rw[N];simp
 obtain rfl:e=c d:=y;rw[c9];refine bP [(60,m)] a E (g.aD ?_);exact cr a v nI
abbrev xf(g e:av×Z)(d:fs)(i:gf)(j:Int)(b:i1)(a:Nat->p N):p an:=pr g e d i++[.h 61 2 2 (a2.fn b.2.2.1),.h 3 1 2 a,pH j b.1 b.2.1]
abbrev p_(e d:av×Z)(b:fs)(g:gf)(i:Int)(j:i1)(a:Nat->p N):p an:=xf e d b g i j a++[.x,.x,.x,.x]
abbrev mc(k:Nat)(i g:av×Z)(d:fs)(j:gf)(a:Int)(b:i1)(e:gf):Prop:=
 bk (ι:=qj (cg a b e).1.2.2.2) (ai.aT V) k [aG 8 0,lL e] (xf i g d j a b (aB.fn b.2.2.2)) (λ_=>bi (cg a b e).2) (λl=>p_ i g d j a (cg a b e).1 l.1)
def Xz(l s)(e)(j)(i)(b)(d)(n:d.1=3):mc 17 l s e j i b d:=by
 have k:cg i b d=((b.1,d.2.2.2.1,b.2.2),f):=by unfold cg;simp[n]
 unfold mc;rw[k];refine bk.bR func17 rfl rfl rfl (g.aW ?_);exact cr a v wq
def XA(e C)(n)(r)(i)(b)(d)(p:fP k b)(s:d.1=2):mc 16 e C n r i b d:=by
 unfold mc;have o:a8 (ai.aT V) [(38,Bm)]:=.cons Mn .nil;by_cases l:1<=d.2.1/\d.2.1<=2
 rotate_left
 .have j:cg i b d=(b,m):=by unfold cg;simp[s,l]
  rw[j];refine bk.bR func16 rfl rfl rfl (g.aW ?_);exact bf o [(8,f)] a (by simp[rk,l]) wq
 have j:cg i b d=((b.1,b.2.1,hO d.2.1 b.1.1 b.2.1 b.2.2),f):=by unfold cg;simp[s,l]
 rw[j];refine bk.bR func16 rfl rfl rfl (g.aW ?_);refine bf o [(8,m)] a (by simp[rk,l]) (g.cJ (Il e C n r d i b.1 b.2.1 d.2.1 b.2.2.1 b.2.2.2 p.a.bm.eB l p.bk p.b6) a a a a E a λt=>?_);refine cG o a v (g.eI 2 ?_);refine g.cK 9 a bl ?_;refine g.ret ?_;exact⟨t,.inl a,a,a,_,_,_,a,a,a,a⟩
abbrev th(a:p an)(e:dT)(_ b d:Bool):p an:=
 match b,d with
 |false,_=>a
 |true,m=>a++[tO]
 |true,f=>a++[gd e]
def acO{Q}(a:qq Q=m):jq Q=Q:=by
 obtain⟨e,d,b⟩:=Q;cases b with
 |nil=>rfl
 |cons g i=>cases a
abbrev aeR(e:Int)(g b:dT)(a:Bool)(d:Nat):z:=
 [aG 8 0,aG 8 0,aG 8 0,S e,aG 8 0,aG 8 0,aG 8 1,gm g,jW b a,jW b a,gm b,bi a,aG 10 0,.any,bi a].getD d .any
set_option maxRecDepth 20000 in
def XC(A d)(l)(e)(i)(b)(n)(B:fP k b)(J:k<=1000)(D:g_ i b.1=f)(F:n.1=5):mc 19 A d l e i b n:=by
 unfold mc;have r:cg i b n=((jq b.1,b.2),qq b.1):=by unfold cg;simp[F]
 have C:=Xl i b.1 (B.a.eu y) B.a.bm.et;have t:zc i b.1=(jq b.1,qq b.1):=bs D;rw[t]at C;have u:=acO (Q:=b.1);rw[r];generalize jq b.1=o at *;generalize qq b.1=p at *;have j:a8 (ai.aT V) [(43,eY [S i,gm b.1] (jW o p))]:=.cons (fo C) .nil;refine bk.bR func19 rfl rfl rfl (g.aW ?_);refine bf j [(1000001,f)] a v ?_;refine g.cx b5 (aeR i b.1 o p) (lP (th (xf A d l e i b (aB.fn b.2.2.2)++[rx n]) o) 14 12 13) a a a a
  ⟨.aE,.aE,.aE,.aE,.aE,.aE,.aE,.aE,.dt bd j (cv:=by exact a),.aE,.aE,.aE,
  cn.ez a a a a a (λx=>by cases x<;>exact ee (bg:=[]) bd j (ao:=h _) a v),
  cn.eA a a a a a (λx=>by cases x<;>exact ee (bg:=[]) bd j (ao:=h _) a v),
  cn.ey a a a a (λs I=>by cases s<;>cases I<;>exact aT.y),v⟩ ?_
 intro z w;show g (ai.aT V) _ _ _ _ _ (th _ o (z 14) (z 12) (z 13));rw[w 14 b',w 12 b',w 13 b'];cases p with
 |true=>
  exact bf j [(19,f)] a E EW
 |false=>
  obtain rfl:=u rfl;exact bf j [(19,m)] a E EW
abbrev aeQ(e:Int)(g b:dT)(c7:p Int)(a:Bool)(d:Nat):z:=
 [aG 8 0,aG 8 0,aG 8 0,S e,aG 8 0,aG 8 0,aG 8 1,aG 8 1,b9 g.1,aG 9 7,aB.S c7,jW b a,jW b a,gm b,bi a,aG 10 0,.any,bi a].getD d .any
set_option maxRecDepth 20000 in
def Xy(A d)(n)(C)(i)(b)(e)(t:fP k b)(B:g_ i b.1=f)(y:e.1=4):mc 18 A d n C i b e:=by
 unfold mc;by_cases u:c b.1.2.2=0
 rotate_left
 .have j:cg i b e=(b,m):=by unfold cg;simp[y,u]
  rw[j];refine bk.bR func18 rfl rfl rfl (g.aW ?_);exact bP [(13,f)] a NC wq
 have j:cg i b e=(((kD i b.1.1 e.2.2.2.2).1,b.2),f):=by unfold cg;simp[y,u]
 have w:=Tu i b.1.1 e.2.2.2.2 t.a.bm.et t.a.bm.toj3.fS;have p:(kD i b.1.1 e.2.2.2.2).2=f:=by unfold kD;rw[bs (vT.2 (ze.1 B).tonV)]
 rw[p]at w;rw[j];generalize(kD i b.1.1 e.2.2.2.2).1=o at *;have l:a8 (ai.aT V) [(42,eY [S i,b9 b.1.1,aB.S e.2.2.2.2] (jW o f))]:=.cons (fo w) .nil;refine bk.bR func18 rfl rfl rfl (g.aW ?_);refine bf l [(13,m),(1000003,f)] a NB ?_;refine g.cx b5 (aeQ i b.1 o e.2.2.2.2 f) (lP (th (xf A d n C i b (aB.fn b.2.2.2)++[rx e]) o) 17 15 16) a a a a
  ⟨.aE,.aE,.aE,.aE,.aE,.aE,.aE,.aE,.aE,.aE,.aE,.dt bd l (cv:=by exact a),.aE,.aE,.aE,
  cn.ez a a a a a (λx=>by cases x<;>exact ee (bg:=[]) bd l (ao:=h _) a v),
  cn.eA a a a a a (λx=>by cases x<;>exact ee (bg:=[]) bd l (ao:=h _) a v),
  cn.ey a a a a (λs I=>by cases s<;>cases I<;>exact aT.y),v⟩ ?_
 intro z r;show g (ai.aT V) _ _ _ _ _ (th _ o (z 17) (z 15) (z 16));rw[r 17 b',r 15 b',r 16 b'];exact bf l [(29,f)] a E EW
abbrev aeS(g:Int)(j d:dT)(a:Int)(i:p c')(b:Bool)(e:Nat):z:=
 [aG 8 0,aG 8 0,aG 8 0,S g,aG 8 0,aG 8 0,aG 8 1,gm j,aG 9 1,S a,aG 9 2,bD.S i,jW d b,jW d b,gm d,bi b,aG 11 0,.any,bi b].getD e .any
set_option maxRecDepth 20000 in
def XB(t A)(C)(J)(i)(b)(j)(n:fP k b)(Y:k<=1000)(M:j.1=1):mc 15 t A C J i b j:=by
 unfold mc;have F:a8 (ai.aT V) [(38,Bm),(39,rl)]:=.cons Mn (.cons vZ .nil);by_cases e:1<=j.2.1/\j.2.1<=2
 rotate_left
 .have B:cg i b j=(b,m):=by unfold cg;simp[M,e]
  rw[B];refine bk.bR func15 rfl rfl rfl (g.aW ?_);exact bf F [(11,f),(16,f)] a (by simp[rk,e]) wq
 cases aa:dR j.2.2.1 with
 |false=>
  have B:cg i b j=(b,m):=by unfold cg;simp[M,aa]
  rw[B];refine bk.bR func15 rfl rfl rfl (g.aW ?_);exact bf F [(11,m),(16,f)] a Q5 wq
 |true=>
 have B:cg i b j=pw i b j.2.1 j.2.2.1:=by unfold cg;simp[M,e,aa]
 rw[B];have R:=vm (ct:=j.2.1) (b:=b.1.1) (d:=b.2.1) (bc:=b.2.2) n.bk n.b6;have N:=Il (r:=ai.aT V) t A C J j i b.1 b.2.1 j.2.1 b.2.2.1 b.2.2.2 n.a.bm.eB e n.bk n.b6;have O:=Xj t A i b.1 j.2.1 j.2.2.1 (n.a.eu y) n.a.bm.et n.a.bm.fL nJ;have X:=DR (i:=i) (ct:=j.2.1) (o:=j.2.2.1) n.a;unfold pw;rw[show((b.2.2.1,b.2.2.2):p (Int×Int)×p Int)=b.2.2 from a]at N;generalize hO j.2.1 b.1.1 b.2.1 b.2.2=l at *;have K:l.2.getD (0+(j.2.1-1).toNat) aB.I=l.2.getD (j.2.1-1).toNat 0:=qZ;refine bk.bR func15 rfl rfl rfl (g.aW ?_);refine bf F [(11,m),(16,m)] a Q5 (g.cJ N a a a a E a λw=>?_);refine bP [(1000004,f)] a v (g.ba (n2 t A C J i b.1 b.2.1 l.1 (aB.fn l.2) j++[.x]) a tT ?_);by_cases u:l.2.getD (j.2.1-1).toNat 0=0
 rotate_left
 .rw[bm (λn=>u n.1)];refine bP [(31,f),(38,f)] a ?_ ?_
  .simp only[U,K,a7,j8,d8,ba,a9];and_intros<;>first|exact u|omega
  exact Pd
 by_cases D:b.2.1.1=0
 rotate_left
 .rw[bm (λn=>D n.2)];refine bP [(31,m),(38,f)] a ?_ ?_
  .simp only[U,K,u,a7,j8,iB,d8,ba,a9];and_intros<;>first|exact D|omega
  exact Pd
 rw[bs ⟨u,D⟩];refine bP [(31,m),(38,m),(1000006,f)] a ?_ ?_
 .simp only[U,K,u,D,a7,iB,ba,a9];omega
 refine g.cx b5 (aeS i b.1 (fU i b.1 j.2.1 j.2.2.1).1 j.2.1 j.2.2.1 (fU i b.1 j.2.1 j.2.2.1).2) (lP (th (n2 t A C J i b.1 b.2.1 l.1 (aB.fn l.2) j++[.x]) (fU i b.1 j.2.1 j.2.2.1).1) 18 16 17) a a a a
  ⟨.aE,.aE,.aE,.aE,.aE,.aE,.aE,.aE,.aE,.aE,.aE,.aE,
  cn.eJ a a a (λx s I=>aT.dS (by cases s<;>cases I<;>exact dx.dj O.tocD [0,1,2] a a a a a a a bl a bl)),
  .aE,.aE,.aE,
  cn.ez a a a a a (λx=>by cases x<;>exact ee (bg:=[]) bd F (ao:=h _) a v),
  cn.eA a a a a a (λx=>by cases x<;>exact ee (bg:=[]) bd F (ao:=h _) a v),
  cn.ey a a a a (λs I=>by cases s<;>cases I<;>exact aT.y),v⟩ ?_
 intro z Q;show g (ai.aT V) _ _ _ _ _ (th _ (fU i b.1 j.2.1 j.2.2.1).1 (z 18) (z 16) (z 17));rw[Q 18 b',Q 16 b',Q 17 b'];cases jE:(fU i b.1 j.2.1 j.2.2.1).2 with
 |false=>
  rw[bm E];refine bP [(56,f)] a t0 (g.eI 1 ?_);refine g.cK 9 a bl ?_;refine g.cK 11 a bl ?_;refine g.ret ?_;exact⟨⟨_,bt.same⟩,.inl a,a,a,_,_,_,a,a,a,a⟩
 |true=>
  rw[bs a];have T:=(X jE).1;generalize(fU i b.1 j.2.1 j.2.2.1).1=w2 at *;have S:=TN (r:=ai.aT V) t A C J j w2 i w2 b.2.1 j.2.1 l.1 l.2 T.bm.eB e R.1 R.2;rw[show((l.1,l.2):p (Int×Int)×p Int)=l from a]at S;refine bP [(56,m)] a t0 (g.cJ S a a a a E a λW=>?_);refine cr a v (g.cK 9 a bl ?_);refine g.cK 11 a bl ?_;refine g.ret ?_;exact⟨W,.inl a,a,a,_,_,_,a,a,a,a⟩
section
variable {r:ai V}
def TI(d)(i:c d<=4000000):Y r 45 [a2.S d] [] (cy 0 (.S (c d) 2 0 (c d))) [.h 61 2 (c d) (a2.fn d)]:=by
 refine Y.K func45 rfl λj=>?_;refine aZ a v (g.ek bd a a a a a a λb e=>?_);cases b with
 |true=>
  obtain rfl:=jy (e rfl);refine aZ a v (g.fb 2 61 2 (a2.fn []) a ?_);exact E2
 |false=>
  refine gI [] 7 a v (g.dJ 5 61 2 (a2.fn []) a ?_);refine aZ a ⟨a,a,show(0+c d)*16<=_ by omega⟩ (g.ba [.h 61 2 (c d) (a2.fn d)] a ?_ ?_)
  .simp[bt,ce]
  exact Fc
abbrev uC(a:dT):an:=.h 91 2 (c a.1.1) (a1.fn a.1.1)
abbrev w'(c7:p (Int×Int)):an:=.h 61 2 (c c7) (a2.fn c7)
abbrev M5(a:fs):p O:=.c (.int .i64 a.1)::([.R 2 (.S (c a.2.1.1.1) 2 0 (c a.2.1.1.1)),cJ bj a.2.1.1.2.1,cJ a2 a.2.1.1.2.2,cJ aB a.2.1.2.1,cJ aB a.2.1.2.2]++vj a.2.2.1++[.R 3 (.S (c a.2.2.2.1) 2 0 (c a.2.2.2.1)),.R 4 (.S (c a.2.2.2.2) 1 0 (c a.2.2.2.2))])
def HV(a:fs)(b d e g:Bool):p an:=
 match b,d,e,g with
 |true,f,f,f=>[mT a,.cells 35 (M5 a),uC a.2.1,w' a.2.2.2.1,jC (c a.2.2.2.2) a.2.2.2.2]
 |true,f,f,m=>[mT a,fO,uC a.2.1,w' a.2.2.2.1,jC (c a.2.2.2.2) a.2.2.2.2]
 |true,f,m,_=>[mT a,fO,uC a.2.1,w' a.2.2.2.1]
 |true,m,_,_=>[mT a,fO,uC a.2.1]
 |false,_,_,_=>[mT a,fO]
abbrev aeG(a:fs)(b:Nat):z:=
 [aG 0 0,S a.1,aG 0 1,gm a.2.1,.q (.agg [.R 2 (.S (c a.2.1.1.1) 2 0 (c a.2.1.1.1)),cJ bj a.2.1.1.2.1,cJ a2 a.2.1.1.2.2,cJ aB a.2.1.2.1,cJ aB a.2.1.2.2]),aG 0 6,eB a.2.2.1,aG 0 10,a2.S a.2.2.2.1,cy 3 (.S (c a.2.2.2.1) 2 0 (c a.2.2.2.1)),
  aG 0 11,aB.S a.2.2.2.2,cy 4 (.S (c a.2.2.2.2) 1 0 (c a.2.2.2.2)),.q (.agg (M5 a)),.any].getD b .any
set_option maxRecDepth 20000 in
def Xx(b)(k:dN b.2.1.1)(I:c b.2.1.2.1<=4000000)(i:c b.2.1.2.2<=4000000)(d:c b.2.2.2.1=2)(s:c b.2.2.2.2=2):
  Y r 20 [fG b] [] (.q (.agg (gK b.1 b.2.1 b.2.2.1 0))) (lh b.2.2.2.1 b.2.2.2.2):=by
 refine Y.bp bd func20 rfl rfl rfl λl=>?_
 have x:a8 r [(44,k4 [gm b.2.1] [] (.q (.agg [.R 0 (.S (c b.2.1.1.1) 2 0 (c b.2.1.1.1)),cJ bj b.2.1.1.2.1,cJ a2 b.2.1.1.2.2,cJ aB b.2.1.2.1,cJ aB b.2.1.2.2])) [uC b.2.1]),
   (45,k4 [a2.S b.2.2.2.1] [] (cy 0 (.S (c b.2.2.2.1) 2 0 (c b.2.2.2.1))) [w' b.2.2.2.1]),
   (46,k4 [aB.S b.2.2.2.2] [] (cy 0 (.S (c b.2.2.2.2) 1 0 (c b.2.2.2.2))) [jC (c b.2.2.2.2) b.2.2.2.2])]:=
  .cons (l5 (IU b.2.1 k I i)) (.cons (l5 (TI b.2.2.2.1 y)) (.cons (l5 (Ii b.2.2.2.2 y)) .nil))
 refine bf x [(1000001,f)] a v ?_;refine g.cx b5 (aeG b) (mv (HV b) 4 9 12 14) a a a a
  ⟨.aY,.aY,.aY,.aY,
  cn.ay a a a a a a (ee (bg:=[]) bd x (ao:=h _) a ⟨rfl,rfl⟩),
  .aY,.aY,.aY,.aY,
  cn.eP a a a a a a (ee (bg:=[]) bd x (ao:=h _) a ⟨rfl,rfl⟩),
  .aY,.aY,
  cn.eR a a a a a a (ee (bg:=[]) bd x (ao:=h _) a ⟨rfl,rfl⟩),
  .aY,
  cn.eS a a a a a a (ee (bg:=[]) bd x (ao:=h _) a v),v⟩ ?_
 intro z j;show g r _ _ _ _ _ (HV b (z 4) (z 9) (z 12) (z 14));rw[j 4 b',j 9 b',j 12 b',j 14 b'];refine qI x [] 1 a v (g.bw 2 a a a E E (g.ba [mT b,.cells 35 (gK b.1 b.2.1 b.2.2.1 3),.x,.h 61 2 2 (a2.fn b.2.2.2.1),.h 3 1 2 (aB.fn b.2.2.2.2)] a ?_ ?_))
 .simp[hv,d,s]
 refine g.bd () [3,4] ?_ (λn e=>absurd e E);simp
end
abbrev Nc:fs:=(0,kS,mU,[],[])
def jJ(a:fs)(b:gf):fs×Bool:=if hT a=f then((a.1,(cg a.1 a.2 b).1),(cg a.1 a.2 b).2)else(Nc,m)
abbrev zk(a:fs×Bool):z:=.Q [.agg (nF a.1),.aq (.c (.bool a.2))]
def zx{a}(b:hT a=f):c a.2.2.2.1=2/\c a.2.2.2.2=2/\g_ a.1 a.2.1=f:=by simp only[hT,cF,bA]at b;exact⟨b.1.1.1,b.1.1.2,b.2⟩
abbrev u2(a:Nat):p N:=[.fn (.func a) [] []]
abbrev Eo:p (p N):=[u2 15,u2 16,u2 17,u2 18,u2 19]
abbrev XP(a:Nat):Nat:=[15,16,17,18,19].getD (a-1) 0
abbrev wb(a:Int)(e:gf)(d:Bool)(b:Nat):z:=
 [ax (.S f 1 5 λb=>Eo.getD b []),aG 4 0,S a,S (a-1),ax (.O (Eo.getD (a-1).toNat [])),ax ((Eo.getD (a-1).toNat []).getD 0 (.bool m)),lL e,bi d,bi d].getD b .any
set_option maxRecDepth 20000 in
def XE(n j)(b)(i)(k)(u:fi (6000+240*k) b.2.1)(I:k<=1000):
  Y (ai.aT V) 6 [fG b,lL i] (kW n j) (zk (jJ b i)) (kW n j):=by
 refine Y.bp bd func6 rfl rfl rfl λz=>?_;have x:a8 (ai.aT V) [(14,eY [fG b] (bi (hT b)))]:=.cons (fo (XH b (u.eu y))) .nil;unfold jJ;cases b1:hT b with
 |false=>
  exact bf x [(11,f)] a lv nI
 |true=>
 obtain⟨B,D,F⟩:=zx b1;have t:fP k b.2:=⟨u,B,D⟩;have N:=u.b8 y
 rw[bs a];refine bf x [(11,m)] a lv (g.aF (Xx b N.bm (by have:=u.cb;omega) (by have:=u.cL;omega) B D) [] a ?_);by_cases M:1<=i.1/\i.1<=5
 rotate_left
 .have O:cg b.1 b.2 i=(b.2,m):=by unfold cg;grind
  rw[O];apply g.cj [(2,aG 3 0),(3,aG 4 0),(4,aG 5 0),(7,aG 8 0)] (pr n j b i++lh b.2.2.2.1 b.2.2.2.2++[pH b.1 b.2.1 b.2.2.1])
  .intro du;by_cases J:i.1<1
   .exact bf x [(19,f),(23,f),(1000006,f)] a (by simp[J]) kv
   exact bf x [(19,m),(23,f),(1000006,f)] a bX kv
  refine g.bw 6 a a a E E (g.bw 7 a a a E E (cG x a v (g.cr () [0,1,2] ?_ rz)));simp[hv,B,D]
 have bz:mc (XP i.1.toNat) n j b i b.1 b.2 i:=by
  have A:i.1=1∨i.1=2∨i.1=3∨i.1=4∨i.1=5:=y;rcases A with s|s|s|s|s<;>rw[s]
  .exact XB n j b i b.1 b.2 i t I s
  .exact XA n j b i b.1 b.2 i t s
  .exact Xz n j b i b.1 b.2 i s
  .exact Xy n j b i b.1 b.2 i t F s
  exact XC n j b i b.1 b.2 i t I F s
 unfold mc at bz;have C:(cg b.1 b.2 i).1.2.2.1.length=2/\(cg b.1 b.2 i).1.2.2.2.length=2:=⟨(t.do).bk,(t.do).b6⟩;refine bf x [(19,m),(23,m),(1000007,f)] a bX ?_
 generalize K:cg b.1 b.2 i=e at *;have A:i.1=1∨i.1=2∨i.1=3∨i.1=4∨i.1=5:=y;obtain⟨s,d,r,l,p⟩:=i;simp only at A bz;rcases A with rfl|rfl|rfl|rfl|rfl
 .refine g.df b5 7 (λo=>ay o 6) (wb 1 (1,d,r,l,p) e.2) (λ(_:qj e.1.2.2.2) o=>[bi e.2,bi e.2].getD (o-7) .any) (λw=>p_ n j b (1,d,r,l,p) b.1 e.1 w.1) a a a a a a wj wi wl ?_;intro w;refine g.ba (pr n j b (1,d,r,l,p)++lh e.1.2.2.1 e.1.2.2.2++[pH b.1 e.1.1 e.1.2.1,.x,.x,.x,.x]) a tT ?_;exact wh
 .refine g.df b5 7 (λo=>ay o 6) (wb 2 (2,d,r,l,p) e.2) (λ(_:qj e.1.2.2.2) o=>[bi e.2,bi e.2].getD (o-7) .any) (λw=>p_ n j b (2,d,r,l,p) b.1 e.1 w.1) a a a a a a wj wi wl ?_;intro w;refine g.ba (pr n j b (2,d,r,l,p)++lh e.1.2.2.1 e.1.2.2.2++[pH b.1 e.1.1 e.1.2.1,.x,.x,.x,.x]) a tT ?_;exact wh
 .refine g.df b5 7 (λo=>ay o 6) (wb 3 (3,d,r,l,p) e.2) (λ(_:qj e.1.2.2.2) o=>[bi e.2,bi e.2].getD (o-7) .any) (λw=>p_ n j b (3,d,r,l,p) b.1 e.1 w.1) a a a a a a wj wi wl ?_;intro w;refine g.ba (pr n j b (3,d,r,l,p)++lh e.1.2.2.1 e.1.2.2.2++[pH b.1 e.1.1 e.1.2.1,.x,.x,.x,.x]) a tT ?_;exact wh
 .refine g.df b5 7 (λo=>ay o 6) (wb 4 (4,d,r,l,p) e.2) (λ(_:qj e.1.2.2.2) o=>[bi e.2,bi e.2].getD (o-7) .any) (λw=>p_ n j b (4,d,r,l,p) b.1 e.1 w.1) a a a a a a wj wi wl ?_;intro w;refine g.ba (pr n j b (4,d,r,l,p)++lh e.1.2.2.1 e.1.2.2.2++[pH b.1 e.1.1 e.1.2.1,.x,.x,.x,.x]) a tT ?_;exact wh
 refine g.df b5 7 (λo=>ay o 6) (wb 5 (5,d,r,l,p) e.2) (λ(_:qj e.1.2.2.2) o=>[bi e.2,bi e.2].getD (o-7) .any) (λw=>p_ n j b (5,d,r,l,p) b.1 e.1 w.1) a a a a a a wj wi wl ?_;intro w;refine g.ba (pr n j b (5,d,r,l,p)++lh e.1.2.2.1 e.1.2.2.2++[pH b.1 e.1.1 e.1.2.1,.x,.x,.x,.x]) a tT ?_;exact wh
section
variable {r:ai V}
abbrev Ez(a:fs)(d b:Nat):p O:=.c (.int .i64 a.1)::([cJ a1 a.2.1.1.1,cJ bj a.2.1.1.2.1,cJ a2 a.2.1.1.2.2,cJ aB a.2.1.2.1,.r d 1 (c a.2.1.2.2) (aB.fn a.2.1.2.2)]++vj a.2.2.1++[.R b (.S 2 2 0 2),.R (b+1) (.S 2 1 0 2)])
def TW(a)(e:pU a.2.1)(b:c a.2.2.2.1=2)(d:c a.2.2.2.2=2):Y r 13 [fG a] [] (.q (.agg (Ez a 0 1))) ([hM a.2.1]++g5 a.2):=by have:=uY (r:=r) a e y y;simp only[zv,BX,b,d]at this;exact this
abbrev mS(b:fs)(a:gf):p an:=[.cells 35 (nF b),rx a,fO]
abbrev yB:an:=.J λ_ _=>False
def aaG(u:bb (n++[yB]) b):False:=by have a:c n<c b.m:=EK;obtain⟨_,d,_⟩:=u.box (c n) yB _ wL (bI a);exact d.elim
def DQ(a:fs)(b:gf)(i:Option Bool)(g d e:Bool):p an:=
 match i with
 |none=>match d with
  |false=>mS a b
  |true=>mS a b++[fO]
 |some f=>match g,d,e with
  |false,m,_=>mS a b++[fO,hM a.2.1]++g5 a.2++[yB]
  |true,m,_=>mS a b++[fO,hM a.2.1]++g5 (cg a.1 a.2 b).1++[yB]
  |false,f,_=>mS a b++[fO,hM a.2.1]++g5 a.2
  |true,f,m=>mS a b++[fO,hM a.2.1]++g5 (cg a.1 a.2 b).1
  |true,f,f=>mS a b++[.cells 35 (gK a.1 (cg a.1 a.2 b).1.1 (cg a.1 a.2 b).1.2.1 5),hM a.2.1]++g5 (cg a.1 a.2 b).1
 |some m=>match g,d,e with
  |false,m,_=>mS a b++[hM a.2.1]++g5 a.2
  |false,f,_=>mS a b++[hM a.2.1]++g5 a.2++[fO]
  |true,m,_=>mS a b++[hM a.2.1]++g5 (cg a.1 a.2 b).1
  |true,f,m=>mS a b++[hM a.2.1]++g5 (cg a.1 a.2 b).1++[fO]
  |true,f,f=>mS a b++[hM a.2.1]++g5 (cg a.1 a.2 b).1++[.cells 35 (gK a.1 (cg a.1 a.2 b).1.1 (cg a.1 a.2 b).1.2.1 4)]
def qS(a:fs)(b:gf)(e:Option Bool)(d:Nat):z:=
 match e with
 |none=>[fG a,.any,lL b,.any,.any,.any,.any,aG 3 0,.any,.any].getD d .any
 |some f=>[fG a,.q (.agg (Ez a 4 5)),lL b,.Q [.agg (gK a.1 (cg a.1 a.2 b).1.1 (cg a.1 a.2 b).1.2.1 5),.aq (.c (.bool (cg a.1 a.2 b).2))],.Q [.agg (gK a.1 (cg a.1 a.2 b).1.1 (cg a.1 a.2 b).1.2.1 5),.aq (.c (.bool (cg a.1 a.2 b).2))],.q (.agg (gK a.1 (cg a.1 a.2 b).1.1 (cg a.1 a.2 b).1.2.1 5)),bi (cg a.1 a.2 b).2,aG 3 0,.any,bi (cg a.1 a.2 b).2].getD d .any
 |some m=>[fG a,.q (.agg (Ez a 3 4)),lL b,.Q [.agg (gK a.1 (cg a.1 a.2 b).1.1 (cg a.1 a.2 b).1.2.1 4),.aq (.c (.bool (cg a.1 a.2 b).2))],.Q [.agg (gK a.1 (cg a.1 a.2 b).1.1 (cg a.1 a.2 b).1.2.1 4),.aq (.c (.bool (cg a.1 a.2 b).2))],.q (.agg (gK a.1 (cg a.1 a.2 b).1.1 (cg a.1 a.2 b).1.2.1 4)),bi (cg a.1 a.2 b).2,aG 6 0,.any,bi (cg a.1 a.2 b).2].getD d .any
def M7{R:Prop}(u:R:=by intro I x j s;rcases I with _|w<;>(try cases w)<;>cases x<;>cases j<;>cases s<;>rfl):R:=u
def zy{R:Prop}(u:R:=by intro w x j s;cases w<;>cases x<;>cases j<;>cases s<;>rfl):R:=u
def fP.j9{b}(a:fP k b)(d:k<=1001):pU b.1:=a.a.b8 y
set_option maxRecDepth 20000 in
theorem XF(b)(i)(k)(Q:fi (6000+240*k) b.2.1)(G:k<=1000):
  Y r 5 [fG b,lL i] [] (zk (jJ b i)) []:=by
 refine Y.bp bd func5 rfl rfl rfl λH=>?_;have s:a8 r [(8,eY [fG b] (bi (hT b)))]:=.cons (fo (IZ b (Q.b8 y).cb)) .nil;unfold jJ;cases b1:hT b with
 |false=>
  exact bf s [(10,f)] a lv Ou
 |true=>
 obtain⟨S,N,ah⟩:=zx b1;have ab:fP k b.2:=⟨Q,S,N⟩;have ad:=Q.b8 y
 rw[bs a];have O:=TW (r:=r) b ad S N;have l:=Is (r:=r) b.1 b.2 i k ab G;have I:fP (k+1) (cg b.1 b.2 i).1:=ab.do;refine bf s [(10,m),(1000003,f)] a lv ?_;refine g.g_ b5 (qS b i) (mf (DQ b i) 3 7 8) (ma Bool 1) q a a a a a
   ⟨.fO bd s M7,
   ew.iO a a a a a (λj w=>w=j) (λj w K J=>by
    subst K
    match J with
    |0=>exact .inr (.inr (.inr zA))
    |1=>exact .inl rfl
    |2=>exact .inr (.inr (.inr zA))
    |3=>exact .inr (.inl rfl)
    |4=>exact .inr (.inl rfl)
    |5=>exact .inr (.inl rfl)
    |6=>exact .inr (.inl rfl)
    |7=>cases w with
     |false=>exact .inr (.inr (.inl ⟨rfl,rfl⟩))
     |true=>exact .inr (.inr (.inr rfl))
    |8=>exact .inr (.inr (.inr zA))
    |9=>exact .inr (.inl rfl)
    |J+10=>exact .inr (.inr (.inr zA))) (λj=>by
     intro aa x V M dU X A T W e K D B;cases j
     .exact dx.dj O.tocD [] a a a a a a a bl a bl aa x V M dU X A T W e K D λ_ R u n o p=>B ⟨m,a⟩ R u n o p
     .exact dx.dj O.tocD [] a a a a a a a bl a bl aa x V M dU X A T W e K D λ_ R u n o p=>B ⟨f,a⟩ R u n o p),
   .fO bd s M7,
   ew.gZ a a a a a (λw x=>aT.dS (by
    cases w
    .cases x
     .exact Ph
     exact Ph
    .cases x
     .exact dx.bQ l.tocD [5,6] a a a a E a a a bl a bl
     .exact dx.bQ l.tocD [5,6] a a a a E a a a bl a bl)),
   .dT bd s zy,
   .dT bd s zy,
   .dT bd s zy,
   ew.g1 rfl rfl rfl rfl (λF x=>by rcases F with _|J<;>(try cases J)<;>cases x<;>first|exact ee (bg:=[]) bd s (ao:=h _) rfl v|exactλ_ _ _ M=>(aaG M).elim),
   ew.g2 a a a a a a (λw=>by cases w<;>exact ee (bg:=[]) bd s (ao:=h _) a v),
   .dT bd s zy,v⟩ ?_
 intro F z ae C;have ag:F.isSome=f:=(show F.isSome=z 1 from ae).trans (C 1 b');have d:=I.bk;have t:=I.b6;have Z:=TV (r:=r) (b.1,(cg b.1 b.2 i).1) (I.j9 y) (by simp only;omega) (by simp only;omega);cases F with
 |none=>cases ag
 |some w=>
 show g r _ _ _ _ _ (DQ b i (h w) (z 3) (z 7) (z 8));rw[C 3 b',C 7 b',C 8 b'];cases w with
 |false=>
  refine qI s [] 1 a v (g.bw 4 a a a E E (g.bw 5 a a a E E (cG s a v (g.bQ Z.tocD [] a a a a OR a a a bl a bl a ?_))));exact N7
 |true=>
  refine qI s [] 1 a v (g.bw 5 a a a E E (g.bw 6 a a a E E (cG s a v (g.bQ Z.tocD [] a a a a OR a a a bl a bl a ?_))));exact N7
end
section
variable {r:ai V}
def Cb(b)(e:dN b.2.1.1)(j:c b.2.2.2.1<=4000000):Y r 7 [fG b,fG b] [] (bi f) []:=by
 refine Y.K func7 rfl λk=>?_;have x:a8 r [(21,eY [gm b.2.1,gm b.2.1] (bi f)),(22,xp)]:=.cons (fo (Vm b.2.1 e)) (.cons Eh .nil);refine bf x [(11,m),(19,m),(26,m),(35,m),(42,m)] a (by simp[aB.U,aB.E]) (g.aN 2 (λd=>d<=c b.2.2.2.1) (λd:Nat=>[(2,aG 0 0),(3,aG 1 0),(5,S d)]) (λ_=>[.cells 35 (nF b),.cells 35 (nF b)]) (λd=>c b.2.2.2.1-d) 0 a E a E a y ?_);intro d i;by_cases l:d<c b.2.2.2.1
 .refine bf x [(47,f),(60,m)] a ?_ (g.aB (d+1) a ?_ ?_ ?_ ?_)
  .simp only[U,a7,fX,gj,iB,bA,ba,a9];and_intros<;>first|omega|rfl|simp
  .simp
  .simp
  .grind
  omega
 refine bf x [(47,m)] a bX (g.aD ?_);exact zL
end
structure q5 where
 cA:nN 0
 q:{R:gf×Nat // z_ cA.k1 R}
abbrev q5.a(a:q5):fs:=a.cA.a
abbrev q5.gh(a:q5):gf:=a.q.1.1
section
variable {r:ai V}[r.b']
set_option maxRecDepth 20000 in
def T_(A)(d:Nat->Int)(l:Bytes d)(n:A<=1048576):
  bk (ι:=q5) r 4 [ax (.S m 1 A (sE d))] [] (λk=>.Q [.agg (nF k.a),.agg (B5 k.gh)]) (λ_=>[]):=by
 refine bk.hg func4 rfl rfl (e' rfl) (g.aW ?_);refine aZ a v (g.a9 (Wa A d n) [] a bl ?_);rintro⟨i,b⟩;refine aZ a v (g.a9 (XD i d l 0 y b) [2] a bl ?_);intro e;have p:=e.gk;refine aZ a v (g.a9 (It i d l e.k1 y b) [2] a bl ?_);intro j;refine aZ a v (g.bw 4 a a a E E (g.bw 5 a a a E E (g.ba [.cells 35 (nF e.a),rx j.1.1,ef i d j.1.2,hM e.a.2.1,.x,.x] a ?_ ?_)))
 .simp[hv]
 refine g.freeze 2 0 a a a ?_;refine g.freeze 3 1 a a a ?_;refine g.bS (λ_ _ _ o=>⟨⟨e,j⟩,o⟩) ?_;exact P6
end
def nN.gF(a:nN 0):fi (6000+240*8) a.a.2.1:=by rw[(D5 a.v (fR a.dL)).1];exact(vH a.dL).a.mono (by have:=a.gm;omega)
def SP{b}{a}(d:¬(1<=a.1/\a.1<=5)):cg i b a=(b,m):=by unfold cg;grind
structure FF(Q:fs)(aj:gf):Prop where
 bm:∀{r:ai V},Y r 5 [fG Q,lL aj] [] (zk (jJ Q aj)) []
 a':∀H9 H_,Y (ai.aT V) 6 [fG Q,lL aj] (kW H9 H_) (zk (jJ Q aj)) (kW H9 H_)
 ji:∀{r:ai V},Y r 7 [fG (jJ Q aj).1,fG (jJ Q aj).1] [] (bi f) []
 ok:∀{r:ai V},Y r 8 [fG Q] [] (bi (hT Q)) []
 jj:∀{r:ai V},hT Q=f->Y r 7 [fG Q,fG Q] [] (bi f) []
 kp:hT Q=f->fP 1001 (cg Q.1 Q.2 aj).1
 gF:fi (6000+240*8) Q.2.1
def H4{b}{aj}(d:fi (6000+240*8) b.2.1):FF b aj:=by
 have g:hT b=f->fP 8 b.2:=λa=>⟨d,(zx a).1,(zx a).2.1⟩
 have e:hT b=f->fP 9 (cg b.1 b.2 aj).1:=λa=>(g a).do;refine⟨XF b aj 8 d y,λj i=>XE j i b aj 8 d y,?_,IZ b (d.b8 y).cb,λa=>?_,λa=>(e a).mono y,d⟩
 .unfold jJ;cases a:hT b with
  |false=>exact Cb Nc ⟨by simp,by simp,by simp,by simp[ln],by simp⟩ E
  |true=>exact Cb (b.1,(cg b.1 b.2 aj).1) (e a).a.bm.et (by have:=(e a).bk;simp only;omega)
 .exact Cb b d.bm.et (by have:=(g a).bk;omega)
def q5.do(a:q5):FF a.a a.gh:=H4 a.cA.gF
abbrev qg(a b:Int)(d:p c'):gf:=(a,b,d,mU,[])
def xR{a}{d}(b:hT a=f)(e:cg a.1 a.2 d=(a.2,m)):jJ a d=(a,m):=by unfold jJ;rw[bs b,e]
def ZF{b}:cg i b (qg 6 0 [])=(b,m):=SP b'
def ZG{b}:cg i b (qg 1 3 [])=(b,m):=by unfold cg;rfl
def ZH{b}:cg i b (qg 2 0 [])=(b,m):=by unfold cg;rfl
def ZI{b}:cg i b (qg 1 1 [([102],[])])=(b,m):=by have a:dR [([102],[])]=m:=b';unfold cg;simp[a]
def Vg(i w)(A)(l:Nat->Int)(t:Bytes l)(_:A<=9223372036854775807):Y (ai.aT V) 3 [ax (.S m 1 A (sE l))] (kW i w) (bi f) (kW i w):=by
 refine Y.K func3 rfl λB=>?_;by_cases z:1048576<A
 .refine a6 [(19,f)] a bX (g.aS [0,1,2] a ?_ rz);simp
 refine a6 [(19,m)] a bX (g.a9 (T_ A l t y) [] a bl ?_);intro o;have e:=o.do;generalize o.a=d at *;generalize o.gh=aj at *;refine aZ a v (g.aF e.bm [] a (aZ a v (g.aF (e.a' i w) [0,1,2] a ?_)));have p:=e.ji (r:=ai.aT V);have k:=e.jj (r:=ai.aT V);have b:=λu=>(H4 (aj:=u) e.gF).a' i w;cases b1:hT d with
 |false=>
  have j:a8 (ai.aT V) [(7,eY [fG (jJ d aj).1,fG (jJ d aj).1] (bi f)),(8,eY [fG d] (bi (hT d)))]:=.cons (fo p) (.cons (fo e.ok) .nil);generalize jJ d aj=x at *;refine bf j [(40,m),(46,m),(50,f),(54,f)] a lv (g.aS [0,1,2] a ?_ rz);simp
 |true=>
 have j:a8 (ai.aT V) [(7,eY [fG (jJ d aj).1,fG (jJ d aj).1] (bi f)),(8,eY [fG d] (bi (hT d)))]:=.cons (fo p) (.cons (fo e.ok) .nil);have k:=k b1;have d1:=b (qg 6 0 []);have d2:=b (qg 1 3 []);have d3:=b (qg 2 0 []);have d4:=b (qg 1 1 [([102],[])]);rw[xR b1 ZF]at d1;rw[xR b1 ZG]at d2;rw[xR b1 ZH]at d3;rw[xR b1 ZI]at d4;generalize jJ d aj=x at *;refine bf j [(40,m),(46,m),(50,m)] a lv (g.bQ d1.tocD [0,1,2] a a a a E a a a bl a bl a ?_);rintro -;refine cG j a v (g.bQ d2.tocD [0,1,2] a a a a E a a a bl a bl a ?_);rintro -;refine cG j a v (g.bQ d3.tocD [0,1,2] a a a a E a a a bl a bl a ?_);rintro -;refine cG j a v (g.bQ d4.tocD [0,1,2] a a a a ?_ a a a bl a bl a ?_)
 .simp only[U.Y,U,ba,a9];and_intros<;>first|exact bt.same|rfl|(intro s b;match s,b with|0,_=>rfl)
 rintro -;have n:a8 (ai.aT V) [(7,eY [fG d,fG d] (bi f))]:=.cons (fo k) .nil;refine bf n [(87,f),(92,f),(96,f),(101,f),(105,f),(110,f),(114,f)] a E (g.aS [0,1,2] a ?_ rz);simp
end R1
end Go.AM
