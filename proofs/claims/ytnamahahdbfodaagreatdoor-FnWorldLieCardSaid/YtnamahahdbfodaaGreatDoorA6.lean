/- Part 6. No condition. -/
import Derived.Test.YtnamahahdbfodaaGreatDoorA5
import Derived.Conc.CrowdComm
import Derived.Conc.SmallLaws
import Derived.Conc.EventLaws
set_option linter.all false
set_option maxHeartbeats 8000000
open Go.Proofs
open Go.Proofs.Tryz
open List renaming length → c, range → aC, getD_eq_getElem?_getD → al
open Go renaming Value → Z, TypeId → av, World → au, Frame → aK, Operand → aB, Program → aI, Goroutine → ak, Oper → ap
open Option renaming some → h, none → n
open Bool renaming true → f, false → l
open Nat renaming ble → ay
open Go.Proofs.Tryz renaming prog → V
namespace Go.AM
variable {k A:Nat}{i:Int}{d j e w:Nat}{W:av}{H:Z->(Nat->Option Obj)->Prop}{L:Array Bool}{bB:Mem}{D:Nat}{P:aI}{bq:ak->a5->Prop}{s:Code}{C:ak}{t:ap}{b:a5}{q:av}{aa:Z}{o X:aB}{α:Type}{η:aB->z}{ι:Type}{p:m an}{F:bH}{all:m ap}{dp:Array av}{cap:m N}{cR:m z}{k8:Nat->Option Obj}{ah:m aK}{bg:m (Nat×Bool)}{T:Nat->m N}{cP:aB}{gs:Array ak}{aP:m Nat}{cf:m Prop}{off:Nat}{op:BinOp}{aD:Array ap}{ab:m Prop}{bs:m ap}{az:a5}{ty:av}{val:Nat->Nat->Z}{B:m Z}{bi:au}{ag:Array aB}{ao dd:m an}{res:ι->z}{aM:ι->m an}
variable {CT:m (Nat×bL)}{ar:m ij}{be:fs}{ad:m (Nat×bv)}{a4:bv}
namespace R1
def kp(a:m Int)(d:m b')(e b:Nat):m b'×Nat:=
 if(hB (d.getD b (0,[])) a).2.length=0 then(ob d e b,e-1)else(d.set b (hB (d.getD b (0,[])) a),e)
def abl{cr}{bS}{d}(k:A<=c d)(a:e<A)(j:(d.take A).Pairwise λb q=>b.1<q.1)(o:∀b∈d.take A,b.2≠[])(p:(d.getD e (0,[])).1=bS):
  gF (λb:b'=>b.1==bS) (d.take A)=e/\(kp cr d A e).1.length=c d/\(kp cr d A e).2<=A/\(kp cr d A e).1.take (kp cr d A e).2=fg bS cr (d.take A):=by
 have i:(d.take A).getD e (0,[])=d.getD e (0,[]):=by simp[io,a]
 obtain⟨k1,g⟩:=Lm (cr:=cr) (bS:=bS) (ab:=d.take A) (e:=e) j o dA (i▸p);rw[i]at g;rw[g];unfold kp;split
 .refine⟨k1,SZ k a,by omega,?_⟩;unfold ob;have m:c ((d.take A).eraseIdx e)=A-1:=Ns;simp only;exact List.take_left' m
 exact⟨k1,by simp,bC _,by rw[AD]⟩
section
variable {r:aj V}
def Vg(b)(k):Y r 139 [fA b,ax (.O [.int .i64 k])] [] (bh (b.1==k)) []:=by refine Y.K func139 rfl λd=>?_;exact aZ a v (g.aw a)
abbrev lP(b:m b')(a:Nat):b':=b.getD (0+(a:Int).toNat) a2.I
abbrev Ll(d:m b')(b:Nat)(a:m Int):an:=.cells 70 [.c (.int .i64 (lP d b).1),.c (lo (hB (lP d b) a))]
end
structure wL(Q:dT)(Kt w:Nat)(d:m b')(A:Nat):Prop where
 fF:w<=c Q.2.2
 len:c d=Kt
 gm:A<=Kt
 cX:d.take A=(ks Q w).1.1
 b9:∀R∈d,c R.2<=4000000
def wL.next{Q}{u}{d}(D:nZ i Q)(e:wL Q u w d A)(v:w<c Q.2.2):
  ∃g,g<A/\gF (λj:b'=>j.1==Q.2.2.getD w 0) (d.take A)=g/\wL Q u (w+1) (kp Q.2.1 d A g).1 (kp Q.2.1 d A g).2:=by
 have k:=D.hY w;obtain⟨B,m,t,I⟩:=Mf (Q:=Q) (w:=w) e.fF;have r:Q.2.2.drop w=Q.2.2.getD w 0::Q.2.2.drop (w+1):=dA;obtain⟨j,b,s⟩:=k.hq (Q.2.2.getD w 0) (by rw[t,r];simp);rw[<-e.cX]at b;obtain⟨g,o,z⟩:=hG b;rw[List.length_take]at o;have q:g<A:=y;have E:(d.getD g (0,[])).1=Q.2.2.getD w 0:=by rw[<-s,<-z];simp[bI (show g<c d by omega)]
 have x:∀j∈d.take A,j.2≠[]:=λj b=>by rw[e.cX]at b;have:=(k.c1 j b).len.1;grind
 obtain⟨k1,a',C,F⟩:=abl (cr:=Q.2.1) (by rw[e.len];exact e.gm) q (by rw[e.cX];exact k.dI) x E;refine⟨g,q,k1,v,by rw[a',e.len],fG C e.gm,?_,λj b=>?_⟩
 .rw[F,e.cX];rw[show ks Q (w+1)=js (ks Q w)from a];unfold js;rw[t,r,m]
 unfold kp at b;split at b
 .unfold ob at b;simp only[gl,fo]at b;rcases b with b|b|b
  .exact e.b9 j (hf (List.mem_of_mem_eraseIdx b))
  .exact bK
  exact e.b9 j (ss b)
 rcases Ar b with b|b
 .exact e.b9 j b
 rw[b];have p:d.getD g (0,[])∈d:=M;exact fG (kB _ _) (e.b9 _ p)
section
variable {r:aj V}
def Io(d)(i:c d<=4000000):Y r 53 [aA.S d] [] (cz 0 (.S (c d) 1 0 (c d))) [jF (c d) d]:=by
 refine Y.K func53 rfl λj=>?_;refine aZ a v (g.et bd a a a a a a λb e=>?_);cases b with
 |true=>
  obtain rfl:=jA (e rfl);refine aZ a v (g.fb 2 3 1 (aA.fn []) a ?_);exact E_
 |false=>
  refine gJ [] 7 a v (g.dJ 5 3 1 (aA.fn []) a ?_);refine aZ a ⟨a,a,show(0+c d)*8<=_ by omega⟩ (g.bf [jF (c d) d] a ?_ ?_)
  .simp[bt,ce]
  exact Fk
abbrev Hx(a:dT)(b:Bool):m O:=[.R 2 (.S (c a.1.1) 2 0 (c a.1.1)),.R 3 (.S (c a.1.2.1) 2 0 (c a.1.2.1)),cI a1 a.1.2.2,cI aA (aA.af (c a.2.1) (aA.fn a.2.1)),.R 4 (.S (c a.2.2) 1 0 (c a.2.2))]
abbrev Hw(a:dT)(b d e g:Bool):m an:=
 match b,d,e,g with
 |false,_,_,_=>[gh a,.cells 30 l9]
 |true,_,l,_=>[gh a,.cells 30 l9,.h 70 2 (c a.1.1) (a2.fn a.1.1),.h 74 2 (c a.1.2.1) (bj.fn a.1.2.1)]
 |true,_,f,l=>[gh a,.cells 30 l9,.h 70 2 (c a.1.1) (a2.fn a.1.1),.h 74 2 (c a.1.2.1) (bj.fn a.1.2.1),jF (c a.2.2) a.2.2]
 |true,_,f,f=>[gh a,.cells 30 (Hx a f),.h 70 2 (c a.1.1) (a2.fn a.1.1),.h 74 2 (c a.1.2.1) (bj.fn a.1.2.1),jF (c a.2.2) a.2.2]
abbrev aeG(a:dT)(b:Nat):z:=
 [aG 0 0,b1 a.1,.n (.agg [.R 2 (.S (c a.1.1) 2 0 (c a.1.1)),.R 3 (.S (c a.1.2.1) 2 0 (c a.1.2.1)),cI a1 a.1.2.2]),aG 0 3,aA.S a.2.1,aA.S (aA.af (c a.2.1) (aA.fn a.2.1)),aG 0 4,aA.S a.2.2,cz 4 (.S (c a.2.2) 1 0 (c a.2.2)),
  .n (.agg (Hx a f)),.any].getD b .any
def Xq(b)(j:dN b.1)(e:c b.2.1<=4000000)(m:c b.2.2<=4000000):Y r 51 [fQ b] [] (.n (.agg [.R 0 (.S (c b.1.1) 2 0 (c b.1.1)),cI bj b.1.2.1,cI a1 b.1.2.2,cI aA b.2.1,.R 1 (.S (c b.2.2) 1 0 (c b.2.2))])) [.h 70 2 (c b.1.1) (a2.fn b.1.1),jF (c b.2.2) b.2.2]:=by
 refine Y.bl bd func51 rfl rfl rfl λp=>?_
 have x:a8 r [(57,k6 [b1 b.1] [] (.n (.agg [.R 0 (.S (c b.1.1) 2 0 (c b.1.1)),.R 1 (.S (c b.1.2.1) 2 0 (c b.1.2.1)),.c (.S l 2 (c b.1.2.2) (a1.fn b.1.2.2))])) [.h 70 2 (c b.1.1) (a2.fn b.1.1),.h 74 2 (c b.1.2.1) (bj.fn b.1.2.1)]),
   (53,df (e0 aA) (λd=>aA.S d) λd=>[c d<=4000000])]:=.cons (l7 (pe b.1 j.a2 j.bp j.a7 j.bx j.aN)) (.cons (.ba λd k=>Ca d k) .nil)
 have hJ:a8 r [(53,k6 [aA.S b.2.2] [] (cz 0 (.S (c b.2.2) 1 0 (c b.2.2))) [jF (c b.2.2) b.2.2])]:=.cons (l7 (Io b.2.2 m)) .nil;refine bf x [(1000001,f)] a v ?_;refine g.cu b6 (aeG b) (mx (Hw b) 2 5 8 10) a a a a
  ⟨.aY,.aY,cp.ay a a a a a a (ee (bg:=[]) bd x (ao:=h _) a E),.aY,.aY,cp.eR a a a a a a (aV.eval (bg:=[]) bd x a (by exact⟨aA.U _,by rw[aA.E];exact e⟩)),.aY,.aY,cp.eT a a a a a a (ee (bg:=[]) bd hJ (ao:=h _) a bK),.aY,
   cp.eU a a a a a a (ee (bg:=[]) bd x (ao:=h _) a v),v⟩ ?_
 intro z I;show g r _ _ _ _ _ (Hw b (z 2) (z 5) (z 8) (z 10));rw[I 2 ca,I 5 ca,I 8 ca,I 10 ca];refine qQ x [] 1 a v (g.bw 3 a a a E E (g.bf [gh b,.cells 30 [.R 2 (.S (c b.1.1) 2 0 (c b.1.1)),cI bj b.1.2.1,cI a1 b.1.2.2,cI aA b.2.1,.R 4 (.S (c b.2.2) 1 0 (c b.2.2))],.h 70 2 (c b.1.1) (a2.fn b.1.1),.x,jF (c b.2.2) b.2.2] a ?_ ?_))
 .simp[aA.E,hz]
 refine g.bh () [2,4] ?_ (λo i=>absurd i E);simp
abbrev tV:an:=.cells 30 l9
abbrev v7(i g:Nat)(d:m eF)(e:m (Int×Int))(b a:m Int):an:=.cells 30 [.R 2 (.S i 2 0 g),cI bj d,cI a1 e,cI aA b,.R 3 (.S (c a) 1 0 (c a))]
abbrev aeP(d:m b')(g b:Nat)(a:m Int)(e:Nat):z:=
 [aG 4 0,aG 4 0,aG 4 0,aG 4 0,cz 2 (.S (c d) 2 0 g),S b,cz 2 (.bu (c d) 2 (0+(b:Int).toNat) 0),fA (lP d b),
  aG 4 0,aG 4 0,aG 4 3,aA.S a,fA (hB (lP d b) a),aG 6 0,.any].getD e .any
abbrev Lk(j:dT)(d:m b')(i p:Nat)(e:m eF)(g:m (Int×Int))(b a:m Int)(k o:Bool):m an:=
 match k,o with
 |false,_=>[gh j,tV,qc d,jF (c a) a,v7 (c d) i e g b a,.x]
 |true,l=>[gh j,tV,qc d,jF (c a) a,v7 (c d) i e g b a,.x,.cells 70 [.c (.int .i64 0),cB]]
 |true,f=>[gh j,tV,qc d,jF (c a) a,v7 (c d) i e g b a,.x,Ll d p b]
set_option maxRecDepth 20000 in
def WH(s)(bS)(d)(A e)(dw)(o)(cr b)(u:A<=c d)(w:c d<=4000000)(t:e<A)(E:gF (λk:b'=>k.1==bS) (d.take A)=e)(C:∀k∈d,c k.2<=4000000):
  bk (ι:={i:Nat->m N // bt (c d) i (a2.fn (kp cr d A e).1)}) r 91 [aG 4 0,S bS] [gh s,tV,qc d,jF (c b) b,v7 (c d) A dw o cr b] (λ_=>.Q []) (λi=>[gh s,tV,.h 70 2 (c d) i.1,jF (c b) b,v7 (c d) (kp cr d A e).2 dw o cr b,.x,Ll d e cr]):=by
 refine bk.bP func91 rfl rfl rfl (g.aW ?_);refine bQ [(1000001,f)] a v (g.freeze 3 5 a a a ?_);refine cu a v (g.aF (UZ d A u w 139 [.int .i64 bS] (λk=>k.1==bS) λk _=>Vg k bS) [2] a ?_);rw[E];have p:lP d e=d.getD e (0,[]):=nP;have j:lP d e∈d:=by rw[p];grind
 have x:a8 r [(140,ev [fA (lP d e),aA.S cr] (fA (hB (lP d e) cr)))]:=.cons (eI (Vy (lP d e) cr (C _ j))) .nil;have cw:0<=(e:Int)/\(e:Int)<((A:Nat):Int):=y;have D:c d=c d/\0+(e:Int).toNat<c d:=⟨rfl,by omega⟩
 refine bQ [(1000002,f)] a v ?_;refine g.cu b6 (aeP d A e cr) (pg (Lk s d A e dw o cr b) 13 14) a a a a
  ⟨.bI,.bI,.bI,.bI,.bI,.bI,.dr bd x (cw:=by exact cw),.dr bd x (cw:=by exact D),.bI,.bI,.bI,.bI,.dr bd x (cw:=by exact a),
   cp.gA a a (ee (bg:=[]) bd x (ao:=h _) a v),cp.gB a a (ee (bg:=[]) bd x (ao:=h _) a v),v⟩ ?_
 intro z B;show g r _ _ _ _ _ (Lk s d A e dw o cr b (z 13) (z 14));rw[B 13 ca,B 14 ca];unfold kp;by_cases q:(hB (lP d e) cr).2.length=0
 .rw[br (by rw[<-p];exact q)];refine bQ [(29,f)] a ?_ ?_
  .simp only[U,a7,q];exact bw
  exact g.aF (Uh d A e u t w) [2] a (cu a v ⟨⟨_,bt.same⟩,.inr a,a,a,_,_,_,a,a,a,v⟩)
 rw[bm (by rw[<-p];exact q)];refine bQ [(29,l)] a ?_ ?_
 .simp only[U];exact⟨v,by omega,by omega,by omega,by simpa using q⟩
 refine⟨⟨lp (0+(e:Int).toNat) [.int .i64 (lP d e).1,lo (hB (lP d e) cr)] (a2.fn d),?_⟩,.inr a,a,a,_,_,_,a,a,a,v⟩;have:=a2.cS d e (hB (lP d e) cr) (c d) (bC _);rw[p]at *;rw[show 0+(e:Int).toNat=e by omega];exact this
def Ui(d)(b)(A:c b<=4000000):
  Y r 92 [cz 0 (.S (c (d::b)) 1 0 (c (d::b))),S 0,S 1] [jF (c (d::b)) (d::b)] (cz 0 (.S (c (d::b)) 1 0 (c b))) [jF (c (d::b)) (b++[0])]:=by
 refine Y.K func92 rfl λz=>?_;refine bQ [(16,l),(1000006,f)] a EP ?_;have k:bT (c (d::b)) (h 0)-bT 0 n+(bT (c (d::b)) n-bT 0 (h 1))=c b:=wF;rw[k];refine g.region ?_;refine gJ [] 4 a v ?_;refine g.aO (a0.hX bd a a a a a a a a a y bK (by simp<;>omega)) a a ?_;refine g.aO (a0.eW bd a a a a a a ?_) a a ?_
 .simp
 refine bQ [(1000007,f)] a v (g.gN 0 (aA.fn (b++[0])) a (λ_ _=>rfl) (λw idx e x o t=>?_) ?_)
 .refine⟨o,?_,λ_ j=>j⟩;rw[<-t];congr 1;unfold nK qK;simp[fl]at e;have p:bT (c b+1) (h 0)-bT 0 n=0:=rfl;have m:bT 0 (h 1)=1:=rfl;have q:bT (c b+1) n=c b+1:=rfl;simp only[fl,c5,p,m,q];have s:aA.fn (b++[0]) idx=aA.a8 ((b++[0]).getD idx 0):=rfl;rw[s];by_cases j:idx<c b
  .have i:(b++[0]).getD idx 0=b.getD idx 0:=dA;have u:aA.fn (d::b) (0+1+(idx-0))=aA.a8 (b.getD idx 0):=by rw[show 0+1+(idx-0)=idx+1 by omega];rfl
   rw[bm y,br y,i,<-u]
  obtain rfl:idx=c b:=y;have i:(b++[0]).getD (c b) 0=0:=E;rw[br y,i];rfl
 exact Pv
end
def zh(b:Int)(a:dT):dT×Bool:=if ha b a=f then(js a,qy a)else(kV,l)
def Xv(i)(k)(p:oY k)(q:dN k.1):Y (aj.aJ V) 50 [S i,fQ k] [] (jY (zh i k).1 (zh i k).2) []:=by
 refine Y.bl bd func50 rfl rfl rfl λR=>?_;have u:a8 (aj.aJ V) [(44,xC)]:=.cons Ev .nil;have D:=q.a2;have C:=p.fK;unfold zh;cases m:ha i k with
 |false=>
  refine bf u [(10,f)] a ?_ ?_
  .simp only[U,a2.E,a2.U,bj.E,bj.U,a1.E,a1.U,aA.E,aA.U,m,p,ba,a9,ip]
  exact OF
 |true=>
 rw[br a];have J:=v8.1 m;refine bf u [(10,l)] a ?_ ?_
 .simp only[U,a2.E,a2.U,bj.E,bj.U,a1.E,a1.U,aA.E,aA.U,m,p,ba,a9,f_]
 refine g.aF (Xq k q p.fM p.fK) [] a ?_;obtain⟨b,d,K⟩:=k;cases K with
 |nil=>
  have A:(js (b,d,[]),qy (b,d,[]))=((b,d,[]),l):=rfl;rw[A];refine bQ [(17,f)] a E (g.bw 2 a a a E E (g.bw 3 a a a E E (g.cq () [] ?_ fI)));simp[hz]
 |cons e j=>
  have F:wL (b,d,e::j) (c b.1) 0 b.1 (c b.1):=⟨gZ _,rfl,bC _,by simp[ks],q.bp⟩
  obtain⟨o,t,M,s⟩:=F.next J E;have x:c j<=4000000:=by have:c j+1<=4000000:=C;omega
  refine bQ [(17,l)] a ?_ ?_
  .simp<;>omega
  refine g.cJ (WH (b,d,e::j) e b.1 (c b.1) o b.2.1 b.2.2 d (e::j) (bC _) D t M q.bp) a a a a E a ?_;rintro⟨B,z⟩;refine cu a v (g.aF (Ui e j x) [3] a (cu a v ?_));have O:(kp d b.1 (c b.1) o).1.length=c b.1:=s.len;have Q:(kp d b.1 (c b.1) o).2<=c b.1:=s.gm;have I:(js (b,d,e::j)).1.1=(kp d b.1 (c b.1) o).1.take (kp d b.1 (c b.1) o).2:=s.cX.symm;refine g.bw 2 a a a bw bw (g.bw 3 a a a E E (g.cq () [] ?_ fI));generalize kp d b.1 (c b.1) o=N at *;simp only[U.Y,U,I,ba,a9];and_intros<;>first|exact bt.same|rfl|(simp;omega)|skip
  .intro w r;have:=z w y;simp[hz,this,cZ.fn,gr,al,io,r,dH]
  intro w r;show aA.a8 ((j++[0]).getD w 0)=aA.a8 (j.getD w 0);simp[List.getElem?_append,r]
def AG{k}{d}{b}(g:∀i,i<b->d.getD i 0<k)(e:b<c d->k<=d.getD b 0):∀a,a<=c d->(fu k d a).2=decide (b<a)
 |0,_=>by simp[fu]
 |a+1,q=>by
  have o:=AG g e a y;rw[w9 y];generalize fu k d a=m at *;unfold gg;by_cases p:b<a
  .grind
  by_cases j:b=a
  .subst j;have:=e y;grind
  have:=g a y;grind
def RO{k}{d}{a}(g:∀j,j<a->d.getD j 0<k)(b:a<c d->k<=d.getD a 0)(i:e<c d):
  (fu k d (e+1)).1=(fu k d e).1++(if e=a then[k]else[])++(if d.getD e 0≠k then[d.getD e 0]else[]):=by
 have p:=AG g b e y;rw[w9 i];generalize fu k d e=o at *;unfold gg;by_cases q:a<e
 .grind
 by_cases m:a=e
 .subst m;have:=b i;grind
 have:=g e y;grind
def Z3{k}{d}{a}(e:∀b,b<a->d.getD b 0<k)(g:a<c d->k<=d.getD a 0)(j:a<=c d):e6 d k=(fu k d (c d)).1++(if a=c d then[k]else[]):=by
 have:=AG e g (c d) (bC _);have i:fu k d (c d)=d.foldl (gg k) ([],l):=by unfold fu;rw[c9]
 unfold e6;rw[<-i];grind
section
variable {r:aj V}
def UT(d)(j)(ah)(i:Int->Bool)(w:∀k,k∈d->Y r j [S k,ax (.O ah)] [] (bh (i k)) []):
  Y r 123 [aA.S d,ax (.fn (.func j) [] [.O ah])] [] (S (gF i d)) []:=by
 refine Y.K func123 rfl λu=>?_;have z:=u.S 0 a;refine aZ a v (g.aL 0 (λb=>b<=c d/\∀e,e<b->i (d.getD e 0)=l) (λb:Nat=>[(0,aA.S d),(1,ax (.fn (.func j) [] [.O ah])),(7,S (c d)),(8,S b)]) (λ_=>[]) (λb=>c d-b) 0 a E a v a ⟨by omega,by omega⟩ ?_);rintro b ⟨s,m⟩;by_cases p:b<c d
 .have t:d.getD b 0∈d:=M;have o:d.getD (b:Int).toNat aA.I=d.getD b 0:=M;refine a6 [(9,f)] a pQ ?_;rw[o];refine g.aF (w _ t) [] a ?_;cases x:i (d.getD b 0)with
  |true=>
   refine a6 [(16,f)] a E (g.aX (bW.zero a ?_));simp[s' p x m]
  |false=>
   refine a6 [(16,l)] a oP (g.aA (b+1) a E v ?_ y);grind
 refine a6 [(9,l)] a bV (g.aC ?_);refine aZ a v (g.aw a ?_);simp[ta (q:=d) (I:=0) (λe A=>m e y)]
def VY(A k):Y r 134 [S A,ax (.O [.int .i64 k])] [] (bh (decide (k<=A))) []:=by refine Y.K func134 rfl λb=>?_;exact aZ a v (g.aw a)
abbrev XU(a:m Int)(b:Int)(d:Nat):bH:=[(0,aA.S a),(3,ax (.O [.int .i64 b])),(5,S d)]
def VZ(d)(k)(F:c d<=100000000):Y r 86 [aA.S d,S k] [] (aA.S (e6 d k)) []:=by
 refine Y.K func86 rfl λD=>?_;refine a6 [(1000001,f)] a v (g.freeze 3 0 a a a ?_);refine aZ a v (g.aF (UT d 134 [.int .i64 k] (λo=>decide (k<=o)) λo _=>VY o k) [] a ?_);obtain⟨b,A,x,w,I⟩:∃b:Nat,b<=c d/\(∀q,q<b->d.getD q 0<k)/\(b<c d->k<=d.getD b 0)/\gF (λo=>decide (k<=o)) d=if b<c d then(b:Int)else -1:=by
  rcases yt (λo=>decide (k<=o)) d with⟨s,i⟩|⟨e,m,s,i,aa⟩
  .refine⟨c d,bC _,λq B=>?_,λi=>absurd i (wZ _),by rw[s,bm (wZ _)]⟩;have:=i (d.getD q 0) M;simp at this;grind
  refine⟨e,by omega,λq B=>?_,λ_=>?_,by rw[s,br m]⟩
  .have:=i (d.getD q 0) (by grind[List.mem_take_iff_getElem]);simp at this;grind
  grind
 rw[I];apply g.cg (XU d k b) [.x]
 .intro du;by_cases u:b<c d
  .rw[br u];exact a6 [(13,l),(1000004,f)] a E kx
  rw[bm u];obtain rfl:b=c d:=y;exact a6 [(13,f),(1000004,f)] a E kx
 refine a6 [(1000005,f)] a v (g.bK 6 3 1 a a ?_);refine aZ a v ?_;refine g.aL 2 (λe=>e<=c d) (λe:Nat=>[(0,aA.S d),(3,ax (.O [.int .i64 k])),(5,S b),(6,.n (.aq (.r 1 1 (fu k d e).1.length (aA.fn (fu k d e).1)))),(16,aA.S d),(17,S (c d)),(18,S e)])
  (λe=>[.x,.r 3 1 (fu k d e).1.length (aA.fn (fu k d e).1)]) (λe=>c d-e) 0 a ?_ a ?_ a y ?_
 .simp[fu]
 .simp[fu]
 intro e m;have C:=w8 k d e m;by_cases i:e<c d
 .have j:=RO x w i;have ae:d.getD (e:Int).toNat aA.I=d.getD e 0:=rfl;generalize fu k d e=p at *;have J:c p.1<=e+1:=y;generalize d.getD e 0=t at *;by_cases g1:e=b<;>by_cases iH:t=k
  .rw[br g1,bm z0,h1]at j;have I:=aA.a0 p.1 k;refine bQ [(19,f),(25,f),(32,l)] a zK (g.aA (e+1) a ?_ ?_ i y)
   .rw[j];simp;exact I
   rw[j];simp;exact I
  .rw[br g1,br z0]at j;have I:=aA.eZ p.1 k t;refine bQ [(19,f),(25,f),(32,f)] a zK (g.aA (e+1) a zD ?_ i y);exact zD
  .rw[bm g1,bm z0,h1,h1]at j;refine bQ [(19,f),(25,l),(32,l)] a zK (g.aA (e+1) a ?_ ?_ i y)
   .rw[j];simp
   rw[j];simp
  rw[bm g1,br z0,h1]at j;have I:=aA.a0 p.1 t;refine bQ [(19,f),(25,l),(32,f)] a zK (g.aA (e+1) a zD ?_ i y);exact zD
 obtain rfl:e=c d:=y;have z:=Z3 x w A;rw[z];generalize fu k d (c d)=p at *;refine bQ [(19,l)] a E (g.aC ?_);by_cases g1:b=c d
 .rw[br g1];have I:=aA.a0 p.1 k;refine bQ [(41,f)] a Qg (g.aw a ?_);simp;exact I
 rw[bm g1,h1];refine bQ [(41,l)] a Qg (g.aw a ?_);simp
end
def Kz{i}{d}:∀(a b:m bE),b.Nodup->(a.foldl (fe i d) b).Nodup
 |[],b,e=>e
 |g::a,b,e=>by rw[j_];refine Kz a _ ?_;unfold fe;grind
def acv(i)(q)(d):(gu i q d).Nodup:=Kz _ _ List.nodup_nil
theorem Ls{d}{o X}:X∈fC d o↔X=o∨X∈d:=by
 induction d with
 |nil=>simp[fC]
 |cons b e a=>simp[fC];split<;>simp[a,or_left_comm,or_assoc]
def abt{d}{o}(g:d.Pairwise λa b=>a.1<b.1)(e:∀i∈d,i.1≠o.1):(fC d o).Pairwise λa b=>a.1<b.1:=by
 induction d with
 |nil=>simp[fC]
 |cons a q j=>
  obtain⟨p,m⟩:=iE.1 g;have k:=e a jc;simp[fC];grind[List.pairwise_cons,Ls]
def Kn:∀(d e:m cW),e.Pairwise (λa b=>a.1<b.1)->d.Pairwise (λa b=>a.1≠b.1)->(∀a∈d,∀b∈e,b.1≠a.1)->(d.foldl fC e).Pairwise λa b=>a.1<b.1
 |[],_,g,_,_=>g
 |a::d,e,g,i,j=>by obtain⟨d1,d2⟩:=iE.1 i;refine Kn d _ (abt g (j a jc)) d2 λp o b k=>?_;grind[Ls]
theorem Ko(i)(dr):kn i dr=(dr.map (gR i)).foldl fC []:=by unfold kn;rw[List.foldl_map];rfl
theorem Kp{a:m bE}(b:cK i=f)(d:∀p∈a,cC p=f)(g:a.Nodup):(a.map (gR i)).Pairwise λq r=>q.1≠r.1:=by rw[wX];refine List.Pairwise.imp_of_mem (λ{x j} k o s e=>s ?_) g;exact aaD b (d x k) (d j o) e
theorem KT{bS}{dr}(a:cK i=f)(j:∀b∈dr,cC b=f)(x:dr.Nodup)(s:c dr<=4):ts bS i dr=kP bS i dr:=by
 show(bS,l6 (dr.map (gR i)))=(bS,kn i dr)
 grind[abs,Kp,Ko]
theorem KU{bS}{dr}(b:cK i=f)(j:∀m∈dr,cC m=f)(e:dr.Nodup)(q:1<=c dr)(p:c dr<=4):h_ i (kP bS i dr)=decide (1<=bS/\bS<=99):=by
 have s:c (kn i dr)=c dr:=Dj i dr;rw[o5,Dz,bA];constructor
 .exact λd=>d.db
 intro d;refine⟨d,b,by show 1<=c (kn i dr)/\_;rw[show(kP bS i dr).2=kn i dr from a];omega,λo g=>?_,?_⟩
 .obtain⟨k,x,rfl⟩:=aaw (show o∈kn i dr from g);have:=aa9 (j k x);simp[right,this]
 show (kn i dr).Pairwise _;rw[Ko];exact Kn _ _ List.Pairwise.nil (Kp b j e) E
def DB(i):∀e a(b:m bE),c b<=e->ix i e a b=(aC ((c b+3) / 4)).map λd:Nat=>kP (a+d) i (gD b d)
 |0,a,b,k=>by have:c b=0:=y;exact bK
 |e+1,a,b,k=>by
  simp[ix];by_cases g:0<c b
  .rw[br g,DB i e (a+1) (b.drop 4) M];have j:(c b+3) / 4=(c (b.drop 4)+3) / 4+1:=M;rw[j,wU,mi,List.map_map];congr 1
   .simp[gD]
   refine wS λd _=>?_;show kP (a+1+(d:Nat)) i (((b.drop 4).drop (4*d)).take 4)=kP (a+((d+1:Nat):Int)) i ((b.drop (4*(d+1))).take 4);grind[List.drop_drop]
  grind
def Hv{d}(e:∀a∈d,cC a=f)(b:d.Nodup)(i:w<(c d+3) / 4):(∀a∈gD d w,cC a=f)/\(gD d w).Nodup/\1<=c (gD d w)/\c (gD d w)<=4:=
 ⟨λa g=>e a (ss (hf g)),(b.sublist (List.drop_sublist _ _)).sublist (List.take_sublist _ _),by simp[gD];omega,by simp[gD];omega⟩
def Jz{b}{d}(p:cK i=f)(e:∀q∈d,cC q=f)(a:d.Nodup)(g:w<(c d+3) / 4):nq i b d w=(decide (1<=dz b+(w:Int)/\dz b+(w:Int)<=99)&&!(c b.1+w==20)):=by obtain⟨j,k,m,o⟩:=Hv e a g;unfold nq l3;grind[KT,KU]
def aar{b}{a:m bE}(d:cK i=f)(r:∀v∈a,cC v=f)(q:a.Nodup)(u:∀e,e<(c a+3) / 4->nq i b a e=f):jp i b a ((c a+3) / 4)=ix i (c a) (dz b) a:=by
 rw[DB i _ _ _ (bC _)];refine wS λe g=>?_;have g:=sx.1 g;obtain⟨j,k,p,o⟩:=Hv r q g;have t:=u e g;have s:h_ i (kP (dz b+(e:Int)) i (gD a e))=f:=by rw[KU d j k p o];rw[Jz d r q g]at t;grind
 unfold l3;rw[KT d j k o,br s]
def mh.jC{i}{b}(d:mh i b):1<=dz b/\dz b<=100:=by
 unfold R1.dz;split
 .omega
 rename_i a;have:=(d.c1 _ (CM a (0,[]))).db;omega
def Z0(i)(b)(a)(q):qD i b a q=D' i b a q:=by
 unfold qD D';by_cases j:hV i b=f/\(a=1∨a=2)/\dV q=f
 .rw[br j,br ⟨j.1,by omega,j.2.2⟩];have g:=vY.1 j.1;have z:=g.jC;have K:c b.2.2<=9:=by have:=g.eE;simp[g8,cE,bA]at this;omega
  have I:=g.len;have x:=(vX (i:=i) (d:=e5 b.1) (r8 j.2.2)).1;have t:=acv i q (e5 b.1);have s:c (pt i b q)=(c (gu i q (e5 b.1))+3) / 4:=by unfold pt;rw[DB _ _ _ _ (bC _)];simp
  have B:pt i b q=ix i (c (gu i q (e5 b.1))) (dz b) (gu i q (e5 b.1)):=rfl;unfold pD;simp only;generalize gu i q (e5 b.1)=d at *;obtain⟨N,E,O,D⟩:=Ef (nq i b d) ((c d+3) / 4) 0;generalize mT (nq i b d) ((c d+3) / 4) 0=o at *;have C:∀e,e<(c d+3) / 4->nq i b d e=(decide (1<=dz b+(e:Int)/\dz b+(e:Int)<=99)&&!(c b.1+e==20)):=λe m=>Jz g.key x t m;by_cases p:o<(c d+3) / 4
  .rw[br p];have v:=D y;rw[C o p]at v;have k:fJ i b q=f:=by simp[fJ,jB,bA,s];simp[Ao,dj,Ap,hg]at v;omega
   grind
  rw[bm p];obtain rfl:o=(c d+3) / 4:=y;have r:∀e,e<(c d+3) / 4->1<=dz b+(e:Int)/\dz b+(e:Int)<=99/\c b.1+e≠20:=λe m=>by grind
  have J:c b.1+(c d+3) / 4<=20:=by refine Nat.le_of_not_lt λF=>?_;exact(r (20-c b.1) y).2.2 y
  have M:dz b+(((c d+3) / 4:Nat):Int)-1<=99:=by
   rcases n3 ((c d+3) / 4)with A|A
   .grind
   have:=(r ((c d+3) / 4-1) y).2.1;omega
  by_cases w:20<dF b
  .rw[br w];have k:fJ i b q=f:=Nv;grind
  rw[bm w];by_cases u:c b.2.2=9
  .rw[br u];have k:fJ i b q=f:=Nv;grind
  rw[bm u];have k:fJ i b q=l:=by simp[fJ,Bool.or_eq_false_iff,dj,s];omega
  rw[k];simp only[hU,B,aar g.key x t λe m=>O e (gZ _) m,ip];rfl
 grind
theorem Lu{d}{o X}(a:X∈ew d o):X=o∨X∈d:=by
 induction d with
 |nil=>simpa[ew]using a
 |cons b g e=>
  simp only[ew]at a;grind
def abx{d}{o}(i:d.Pairwise λa b=>a.1<b.1):(ew d o).Pairwise λa b=>a.1<b.1:=by
 induction d with
 |nil=>simp[ew]
 |cons a m e=>
  obtain⟨k,g⟩:=iE.1 i;simp only[ew];split
  .rename_i s;refine iE.2 ⟨λp j=>?_,e g⟩;grind[Lu]
  grind[List.pairwise_cons]
def Jn:∀(d a:m ft),(∀b∈d,gv b=f)->(∀b∈a,gv b=f)->a.Pairwise (λa e=>a.1<e.1)->(∀b∈d.foldl ew a,gv b=f)/\(d.foldl ew a).Pairwise λa e=>a.1<e.1
 |[],a,_,i,g=>⟨i,g⟩
 |b::d,a,o,i,g=>Jn d (ew a b) (λk j=>o k (m_ _ j)) (λk j=>by grind[Lu]) (abx g)
theorem aaO{d}(g:∀k∈d,gv k=f)(m:d.Pairwise λb e=>b.1<e.1):kN d (c d)=f:=by
 refine f'.2 λj i=>?_;rw[cE];refine⟨g _ M,?_⟩;rcases n3 j with a|a
 .simp[a]
 rw[jB];exact Fc
def Z2(a:m b'):kN (e5 a) (c (e5 a))=f:=by
 unfold e5;split
 .rename_i b;obtain⟨d,e⟩:=Jn (dQ a) [] (List.all_eq_true.1 b) E List.Pairwise.nil;grind[aaO]
 rfl
def acG{d}(a:∀k∈d,c k.2<=4):c (dQ d)<=4*c d:=by
 induction d with
 |nil=>simp[dQ]
 |cons i o e=>
  have b:=e λj g=>a j (m_ _ g);have m:=a i jc;simp only[dQ,sw,dn,k3,fl]at b⊢;omega
def mh.j2{i}{b}(e:mh i b)(a:nX b):1<=dF b:=by have d:=s8 b.2.2 a.aN;unfold R1.dF;split<;>omega
def mh.dc{b}(a:mh i b)(d:nX b):FU i b:=by refine⟨a.key,?_,Z2 _,a.eE,a.j2 d⟩;have:=acG λg e=>(a.c1 g e).len.2;have:=a.len;omega
def acC{b}{a}{q}(d:hV i b=f)(e:1<=a/\a<=2)(g:dV q=f):D' i b a q=(if fJ i b q=f then b else hU i b a q,!fJ i b q):=br ⟨d,e,g⟩
section
variable {r:aj V}[r.b']
abbrev pM(a:i'):an:=.cells 35 (gL 7 a.1 a.2.1 2)
abbrev B9(a:Nat):={b:gz×Nat // z' a b}
def Nc(e:Nat)(d:Nat->Int)(i)(a:i')(j:Option (B9 i))(d3 iJ g:Bool):m an:=
 match j with
 |none=>match iJ with
  |false=>[ef e d i,fO]++g7 a++[pM a]
  |true=>[ef e d i,fO]++g7 a++[pM a,fO]
 |some b=>match d3,iJ,g with
  |false,l,_=>[ef e d b.1.2,fO]++g7 a++[pM a]
  |false,f,_=>[ef e d b.1.2,fO]++g7 a++[pM a,fO]
  |true,l,_=>[ef e d b.1.2,fO]++g7 (cl 7 a b.1.1).1++[pM a]
  |true,f,l=>[ef e d b.1.2,fO]++g7 (cl 7 a b.1.1).1++[pM a,fO]
  |true,f,f=>[ef e d b.1.2,fO]++g7 (cl 7 a b.1.1).1++[pM a,pM (cl 7 a b.1.1).1]
abbrev B1(a:i'):z:=.n (.agg (gL 7 a.1 a.2.1 2))
def aeE(i)(a:i')(e:Option (B9 i))(d:Nat):z:=
 match e with
 |none=>[B1 a,aG 0 0,.any,.any,.any,.any,.any,aG 5 0,.any,.any].getD d .any
 |some b=>[B1 a,aG 0 0,k' b.1.1,.Q [.agg (gL 7 (cl 7 a b.1.1).1.1 (cl 7 a b.1.1).1.2.1 2),.aq (.c (.bool (cl 7 a b.1.1).2))],.Q [.agg (gL 7 (cl 7 a b.1.1).1.1 (cl 7 a b.1.1).1.2.1 2),.aq (.c (.bool (cl 7 a b.1.1).2))],
   B1 (cl 7 a b.1.1).1,bh (cl 7 a b.1.1).2,aG 5 0,.any,bh (cl 7 a b.1.1).2].getD d .any
abbrev DX:i':=(kV,kU,C6,Cy)
def fP.zero:fP 0 DX:=⟨fb.nil,rfl,rfl⟩
def X6:∀a,a<1->([0,5,6,7]:m Nat)[a]?=h a:=λa b=>by grind
def fS(a:m gz):i':=a.foldl (λd b=>(cl 7 d b).1) DX
def Le(T)(a):fS (T++[a])=(cl 7 (fS T) a).1:=by unfold fS;grind
def Ld:∀b a,fP (c a) (fS a)->fP (c (a++b)) (fS (a++b))
 |[],a,e=>by grind
 |d::b,a,e=>by
  have g:fP (c (a++[d])) (fS (a++[d])):=by rw[Le,dn];exact e.do
  have:=Ld b (a++[d]) g;grind
def vM(T):fP (c T) (fS T):=Ld T [] fP.zero
def kT(b:Int)(a:i'):eT:=
 if b=0 then(7,a.1,a.2.1,a.2.2.1,[0])else if b=1 then(7,a.1,a.2.1,a.2.2.1.set 0 (10,(a.2.2.1.getD 0 (0,0)).2),a.2.2.2)else(7,a.1,a.2.1,a.2.2.1,a.2.2.2)
structure nS(i:Nat) where
 dM:m gz
 v:Int
 k1:Nat
 gl:c dM<=8
 hl:i<=k1
 gk:k1<=i+4002
abbrev nS.a{i}(a:nS i):eT:=kT a.v (fS a.dM)
def acF{aa}{T}(g:c T<=8):p0 (kT aa (fS T)).2.1/\(kT aa (fS T)).2.2.2.1.length<=2/\(kT aa (fS T)).2.2.2.2.length<=2:=by have a:=vM T;have e:=a.a.b9 y;have b:=a.bj;have d:=a.b4;unfold kT;grind
set_option maxRecDepth 20000 in
def XN(A)(j:Nat->Int)(G:Bytes j)(i)(ah:i<=30000)(B:A<=1048576):
  bk (ι:=nS i) r 15 [aG 0 0] [ef A j i] (λbc=>.n (.agg (zx bc.a 1 2))) (λbc=>[ef A j bc.k1,hQ bc.a.2.1]++BZ bc.a.2.2.2.1 bc.a.2.2.2.2):=by
 refine bk.bD bd func15 rfl rfl rfl λau=>?_;refine aZ a v (g.aF (XQ 7 ca) [] a (aZ a v (g.a_ (hL A j G i 9 y B y) [0] a bl ?_)));rintro⟨ai,aq,ar⟩;refine aZ a v ?_;refine g.aL 5 (λbc:Nat×m gz×Nat=>bc.1+c bc.2.1<=8/\i<=bc.2.2/\bc.2.2<=i+1+500*c bc.2.1) (λbc=>[(0,aG 0 0),(2,aG 1 0),(3,aG 4 0),(5,S bc.1)])
  (λbc=>[ef A j bc.2.2,fO]++g7 (fS bc.2.1)++[pM (fS bc.2.1)]) (λbc=>bc.1) (ai.toNat,[],i+1) a ?_ a ?_ a ⟨by grind,by grind,by grind⟩ ?_
 .exact zR
 .have p:fS []=DX:=rfl;simp[p]
 rintro⟨V,b,k1⟩ ⟨aN,P,ae⟩;simp only at aN P ae;have K:=vM b;have F:=Le b;have J:∀k,p0 (kT k (fS b)).2.1/\(kT k (fS b)).2.2.2.1.length<=2/\(kT k (fS b)).2.2.2.2.length<=2:=λk=>acF y;have C:∀k k1,i<=k1->k1<=i+4002->∃bc:nS i,bc.a=kT k (fS b)/\bc.k1=k1:=λk k1 x j=>⟨⟨b,k,k1,by omega,x,j⟩,rfl,rfl⟩
 by_cases aw:0<V
 .refine a6 [(15,f),(1000005,f)] a NN ?_;generalize av:fS b=o at *;refine g.g_ b6 (aeE k1 o) (mg (Nc A j k1 o) 3 7 8) (mb (B9 k1) 2) n a a a a a
   ⟨.fP,
   .fP,
   ez.iO a a a a a (λw bc=>by
    match bc with
    |0=>exact .inr (.inr rfl)
    |1=>exact .inr (.inr rfl)
    |2=>grind
    |3=>exact .inr (.inl rfl)
    |4=>exact .inr (.inl rfl)
    |5=>exact .inr (.inl rfl)
    |6=>exact .inr (.inl rfl)
    |7=>exact .inr (.inr rfl)
    |8=>exact .inr (.inr rfl)
    |9=>exact .inr (.inl rfl)
    |bc+10=>exact .inr (.inr rfl)) (λx=>by cases x<;>exact dx.dk (IA A j G k1 y B) [0] rfl rfl rfl rfl rfl rfl rfl bl rfl bl),
   ez.gZ a a a a a (λw x=>by
    have ab:a8 r [(17,k6 [B2 7 o,k' w.1.1] (g7 o) (Ex 7 (cl 7 o w.1.1).1 (cl 7 o w.1.1).2) (g7 (cl 7 o w.1.1).1))]:=.cons (l7 (Iy 7 o w.1.1 (c b) K y)) .nil
    cases x<;>exact ee (bg:=[]) bd ab (ao:=h _) rfl ⟨rfl,rfl⟩),
   .dV,
   .dV,
   .dV,
   ez.g1 rfl rfl rfl rfl (λt x=>by rcases t with _|bc<;>cases x<;>exact ee (bg:=[]) bd a8.nil (ao:=h _) rfl v),
   ez.g2 a a a a a a (λw=>ee (bg:=[]) bd a8.nil (ao:=h _) a v),
   .dV,v⟩ ?_
  intro t z ad u;have W:t.isSome=f:=(show t.isSome=z 2 from ad).trans (u 2 ca);cases t with
  |none=>cases W
  |some bc=>
  obtain⟨⟨p,T⟩,N⟩:=bc;have aa:=N.hl;have Z:=N.gk;simp only at aa Z;show g r _ _ _ _ _ (Nc A j k1 o (h ⟨(p,T),N⟩) (z 3) (z 7) (z 8));rw[u 3 ca,u 7 ca,u 8 ca];have F:=F p;refine aZ a t7 (g.aA (V-1,b++[p],T) a zR ?_ ⟨by grind,by grind,by grind⟩ M);simp only[F];simp
 refine a6 [(15,l)] a NL (g.aC ?_);refine aZ a v (g.a_ (hL A j G k1 40 y B y) [0] a bl ?_);rintro⟨k,aj,ak⟩;have s:(fS b).2.2.1.length=2:=K.bj;have I:(fS b).2.2.2.length=2:=K.b4;by_cases L:k=0
 .obtain⟨bc,d,X⟩:=C 0 (k1+1) y y;obtain⟨O,Q,R⟩:=J 0;have q:=u4 (r:=r) _ O y y;refine a6 [(29,f),(1000012,f)] a (by simp[L]) (g.bw 2 a a a E E (aZ a v (g.bV q.tocD [] a a a a ?_ a a a bl a bl a ?_)))
  .simp only[kT,br,U.Y,U,ba,a9];exact Px
  exact Fe
 by_cases D:k=1
 .obtain⟨bc,d,X⟩:=C 1 (k1+1) y y;obtain⟨O,Q,R⟩:=J 1;have q:=u4 (r:=r) _ O y y;obtain⟨ag,an,Y⟩:∃x j,(fS b).2.2.1=[x,j]:=by
   match N:(fS b).2.2.1,s with
   |[x,j],_=>grind
  have H:bt 2 (hz 0 (lp 0 [.int .i64 10,.int .i64 ((fS b).2.2.1.getD 0 (0,0)).2] (a1.fn (fS b).2.2.1))) (a1.fn ((fS b).2.2.1.set 0 (10,((fS b).2.2.1.getD 0 (0,0)).2))):=by
   rw[Y];intro e bp
   match e,bp with
   |0,_=>rfl
   |1,_=>rfl
  refine a6 [(29,l),(33,f),(1000012,f)] a (by simp[D]) (g.bw 2 a a a E E (g.bw 3 a a a E E (aZ a v (g.bV q.tocD [] a a a a ?_ a a a bl a bl a ?_))))
  .simp only[kT,bm (show¬(1:Int)=0 by decide),br,U.Y,U,ba,a9];and_intros<;>first|exact bt.same|exact H|rfl|omega|exact s|exact I|exact s.symm|exact I.symm|grind|(simp only[sq];omega)
  exact Fe
 obtain⟨bc,d,X⟩:=C k (k1+1) y y;obtain⟨O,Q,R⟩:=J k;have q:=u4 (r:=r) _ O y y;refine a6 [(29,l),(33,l),(1000012,f)] a (by simp[L,D]) (g.bw 2 a a a E E (g.bw 3 a a a E E (aZ a v (g.bV q.tocD [] a a a a ?_ a a a bl a bl a ?_))))
 .simp only[kT,bm L,bm D,U.Y,U,ba,a9];exact Px
 exact Fe
end
section
section
variable {r:aj V}[r.b']
structure ui where
 cz:nS 0
 ev:Bool
def ui.a(a:ui):eT:=if a.ev=f then(a.cz.a.1,(a.cz.a.2.1.1,a.cz.a.2.1.2.1,a.cz.a.2.1.2.2++[9]),a.cz.a.2.2)else a.cz.a
end
def mh.dR{e:cq}(a:mh i e):oU e:=by have d:=a.gF;have b:=m3.of a.eE;exact⟨d.dv,a.dI,d.e'.bc,λj g=>(b.aN j g).1⟩
def aeD{a:eT}(b:fY a=f):nZ a.1 a.2.1:=by simp only[fY,cE]at b;exact v8.1 b.2
def D7(a:eT):cq:=if fY a=f then mF a.2.1.1 a.2.2.1 else([],[],[])
variable {r:aj V}
def W3(b:eT)(i:oY b.2.1):Y (aj.aJ V) 13 [fq b] [] (b1 (D7 b)) []:=by
 refine Y.bl bd func13 rfl rfl rfl λm=>?_;have d:=I_ b i;have k:a8 (aj.aJ V) [(19,ev [fq b] (bh (fY b)))]:=.cons (eI d) .nil;unfold D7;cases bU:fY b with
 |false=>
  exact a_ k [(5,f)] a j3 zE
 |true=>
  have e:=(Sj (r:=aj.aJ V) (aeD bU).dR b.2.2.1).cB;have hJ:a8 (aj.aJ V) [(19,ev [fq b] (bh (fY b))),(32,ev [b1 b.2.1.1,ei b.2.2.1] (b1 (mF b.2.1.1 b.2.2.1)))]:=.cons (eI d) (.cons (eI e) .nil);rw[br a];refine a_ hJ [(5,l)] a (by simp only[U,bU,f_,ba,a9];and_intros<;>rfl) ?_;exact zE
end
def Ec(aa)(b):(kT aa b).2.1=b.1/\(kT aa b).2.2.1=b.2.1:=by unfold kT;grind
def fb.dY{b}(a:fb k b)(d:k<=1000000):oY b:=⟨a.bc.toj6.fT,by have:=a.b8;omega,by have:=a.cL;omega⟩
def nS.dY{i}(a:nS i):oY a.a.2.1:=by have b:=a.gl;rw[(Ec a.v (fS a.dM)).1];exact(vM a.dM).a.dY y
def ui.dY(a:ui):oY a.a.2.1:=by
 have b:=a.cz.dY;unfold ui.a;split
 .refine⟨b.tonY,b.fM,?_⟩;have d:=a.cz.gl;have g:=(vM a.cz.dM).a.cL;have e:=(Ec a.cz.v (fS a.cz.dM)).1;grind
 exact b
end R1
section
namespace R1
variable {r:aj V}[r.b']
abbrev aaa(b:cq)(a:Nat):Nat:=bT (c b.1) (h (a:Int))-bT 0 n
abbrev aab(b:cq)(a:Nat):Nat:=bT (c b.1) n-bT 0 (h ((a:Int)+1))
abbrev lQ(a:cq):Nat->m N:=fx (bT 0 n) (a2.fn a.1)
abbrev kJ(b:cq)(a:Nat):Nat->m N:=fx (bT 0 (h ((a:Int)+1))) (a2.fn b.1)
end R1
end
namespace R1
section
variable {r:aj V}
def IF(b)(d:dN b.1):Y r 10 [fQ b,fQ b] [] (bh f) []:=by refine Y.K func10 rfl λi=>?_;have e:a8 r [(12,ev [b1 b.1,b1 b.1] (bh f)),(11,xx)]:=.cons (eI (IE b.1 d)) (.cons Er .nil);refine bf e [(10,f),(17,f)] a ?_ (g.aw a);exact bK
end
def F6{d}(p:d.Pairwise (·<=·)):∀a,a<=c d->(fv d a).Pairwise (· < ·)/\∀g∈fv d a,0<a/\g<=d.getD (a-1) 0
 |0,_=>by simp[fv]
 |a+1,r=>by
  obtain⟨m,cc⟩:=F6 p a y;have k:∀i,i<a->d.getD i 0<=d.getD a 0:=λi q=>by have:=o7.1 p i a y y q;grind
  rw[fv];split
  .rename_i e;refine⟨m,λg b=>⟨by omega,?_⟩⟩;have:=cc g b;have:=k (a-1) y;simp only[p4];omega
  rename_i e;have j:∀g∈fv d a,g<d.getD a 0:=λg b=>by have t:=cc g b;have s:=k (a-1) y;omega
  refine⟨o8.2 ⟨m,by simp,λg b u o=>?_⟩,λg b=>⟨by omega,?_⟩⟩
  .rw[gY]at o;subst o;exact j g b
  simp only[p4];rcases gl.1 b with b|b
  .have:=j g b;omega
  rw[gY]at b;omega
def acw(o):fW o=gG o.2:=by
 refine AT ?_ (CJ List.Pairwise.nil) λa=>by rw[yD,Km]
 unfold fW hK;exact(F6 (Mc _) _ (bC _)).1
abbrev acH(g e:av×Z)(d:dT)(b:cq)(a:m Int):m an:=iB g e++[gh d,.cells 30 l9,.x,gh (b,a,d.2.2),jV b]
def ab5{b}{a}{q}(d:ha i b=f)(e:1<=a/\a<=2)(g:dV q=f):fV i b a q=if fJ i b.1 q=f then(b,l)else(rX i b a q,f):=by unfold fV rQ;simp_all
def Xt(k A)(i)(b)(cg)(q)(j:oY b)(w:dN b.1)(J:nX b.1)(H:a7 .i64 cg):
  Y (aj.aJ V) 48 [S i,fQ b,S cg,bD.S q] (iB k A) (jY (fV i b cg q).1 (fV i b cg q).2) (iB k A):=by
 refine Y.bl bd func48 rfl rfl rfl λP=>?_;have o:a8 (aj.aJ V) [(44,xC),(46,rv)]:=.cons Ev (.cons t46 .nil);have x:(b.1,b.2.1,b.2.2)=b:=rfl;have ao:=w.a2;cases s:ha i b with
 |false=>
  have t:fV i b cg q=(kV,l):=by unfold fV rQ;simp[s]
  rw[t];refine bf o [(19,f),(27,f),(31,f)] a ?_ ?_
  .simp only[U,a2.E,a2.U,bj.E,bj.U,a1.E,a1.U,aA.E,aA.U,x,s,j,ip,ba,a9]
  exact nN
 |true=>
 by_cases F:1<=cg/\cg<=2
 rotate_left
 .have t:fV i b cg q=(kV,l):=by unfold fV rQ;simp[F]
  rw[t];exact bf o [(19,l),(22,f),(27,f),(31,f)] a bK nN
 have R:cg=1∨cg=2:=y;cases I:dV q with
 |false=>
  have t:fV i b cg q=(kV,l):=by unfold fV rQ;simp[I]
  rw[t];rcases R with rfl|rfl
  .exact bf o [(19,l),(22,l),(27,l),(31,f)] a zQ nN
  exact bf o [(19,l),(22,f),(27,l),(31,f)] a zQ nN
 |true=>
 rw[ab5 s F I];have B:=v8.1 s;have ag:=vY.2 B.tomh;have aR:=B.tomh.gF;have z:=Xl k A i b.1 cg q w j.tonY J H λu=>(vY.1 u).dc J;rw[Z0,acC ag F I]at z;apply g.cg [(0,S i),(2,S cg),(3,bD.S q),(5,aG 3 0),(8,aG 4 0)] (iB k A++[gh b,.cells 30 l9])
 .intro du;rcases R with rfl|rfl
  .exact bf o [(19,l),(22,l),(27,l),(31,l),(1000003,f)] a zQ kx
  exact bf o [(19,l),(22,f),(27,l),(31,l),(1000003,f)] a zQ kx
 refine cu a v (g.aF (I5 b w j.fM j.fK) [] a (bQ [(1000004,f)] a v (g.bw 5 a a a E E (cu a v (g.aF z [0,1,2] a ?_)))));cases X:fJ i b.1 q with
 |true=>
  exact bQ [(45,f)] a E Pf
 |false=>
 have an:=w.bx;have K:=aR.dc (i:=i) (q:=q) (cg:=cg) (by have:=xe 1 B.dq λp Z=>(B.a7 p Z).1;omega) I X;have ah:(hU i b.1 cg q).2.1.length=c b.1.2.1+1:=by simp[hU]
 have aa:(hU i b.1 cg q).2.1.getD ((hU i b.1 cg q).2.1.length-1) (0,[])=gS (dF b.1) i q:=by rw[ah];simp[hU,al]
 have T:=K.c0 (gS (dF b.1) i q) M;have L:=wa T.2;have ak:=tp (gS (dF b.1) i q).2;have ai:=K.ew;have G:=j.fM;have Q:=Ck (r:=aj.aJ V) (gS (dF b.1) i q) y y;rw[acw]at Q;unfold rX;simp only[bm (show¬(l=f) by simp)];generalize hU i b.1 cg q=m at *;generalize gS (dF b.1) i q=p at *;have ad:((c m.2.1:Int)-1).toNat=c m.2.1-1:=y;have W:m.2.1.getD ((c m.2.1:Int)-1).toNat bj.I=p:=by rw[ad];exact aa
 have C:a8 (aj.aJ V) [(75,ev [iM p] (aA.S (gG p.2)))]:=.cons (eI Q) .nil;refine bf C [(45,l)] a ?_ ?_
 .simp only[U,W,a7];and_intros<;>first|rfl|exact True.intro|omega
 generalize gG p.2=d at *;refine g.aL 8 (λe=>e<=c d) (λe:Nat=>[(8,aG 4 0),(10,aG 6 0),(57,aA.S d),(58,S (c d)),(59,S e)])
  (λe=>acH k A b m ((d.take e).foldl e6 b.2.1)) (λe=>c d-e) 0 a ?_ a ?_ a y ?_
 .simp
 .simp
 intro e ab;by_cases u:e<c d
 .have ae:d.getD (e:Int).toNat aA.I=d.getD e 0:=rfl;have N:=yf e6 b.2.1 u;have O:=qu b.2.1 (d.take e);rw[List.length_take]at O;generalize(d.take e).foldl e6 b.2.1=ja at *;have D:a8 (aj.aJ V) [(86,ev [aA.S ja,S (d.getD e 0)] (aA.S (e6 ja (d.getD e 0))))]:=.cons (eI (VZ ja (d.getD e 0) y)) .nil;refine bf D [(60,f)] a ?_ (g.aA (e+1) a E ?_ u y)
  .simp only[U,ae,a7,bA];exact q4
  rw[N];simp
 obtain rfl:e=c d:=y;rw[c9];refine bQ [(60,l)] a E (g.aC ?_);exact cu a v nN
abbrev xm(g e:av×Z)(d:eT)(i:gz)(j:Int)(b:i')(a:Nat->m N):m an:=py g e d i++[.h 46 2 2 (a1.fn b.2.2.1),.h 3 1 2 a,pN j b.1 b.2.1]
abbrev qf(e d:av×Z)(b:eT)(g:gz)(i:Int)(j:i')(a:Nat->m N):m an:=xm e d b g i j a++[.x,.x,.x,.x]
abbrev md(k:Nat)(i g:av×Z)(d:eT)(j:gz)(a:Int)(b:i')(e:gz):Prop:=
 bk (ι:=qr (cl a b e).1.2.2.2) (aj.aJ V) k [aG 8 0,k' e] (xm i g d j a b (aA.fn b.2.2.2)) (λ_=>bh (cl a b e).2) (λm=>qf i g d j a (cl a b e).1 m.1)
def XJ(m s)(e)(j)(i)(b)(d)(o:d.1=3):md 22 m s e j i b d:=by
 have k:cl i b d=((b.1,d.2.2.2.1,b.2.2),f):=by unfold cl;simp[o]
 unfold md;rw[k];refine bk.bP func22 rfl rfl rfl (g.aW ?_);exact cu a v wA
def XK(e C)(o)(r)(i)(b)(d)(q:fP k b)(s:d.1=2):md 21 e C o r i b d:=by
 unfold md;have p:a8 (aj.aJ V) [(45,Bn)]:=.cons Mw .nil;by_cases m:1<=d.2.1/\d.2.1<=2
 rotate_left
 .have j:cl i b d=(b,l):=by unfold cl;simp[s,m]
  rw[j];refine bk.bP func21 rfl rfl rfl (g.aW ?_);exact bf p [(8,f)] a (by simp[ru,m]) wA
 have j:cl i b d=((b.1,b.2.1,hn d.2.1 b.1.1 b.2.1 b.2.2),f):=by unfold cl;simp[s,m]
 rw[j];refine bk.bP func21 rfl rfl rfl (g.aW ?_);refine bf p [(8,l)] a (by simp[ru,m]) (g.cJ (Ir e C o r d i b.1 b.2.1 d.2.1 b.2.2.1 b.2.2.2 q.a.bc.dR m q.bj q.b4) a a a a E a λt=>?_);refine cJ p a v (g.eM 2 ?_);refine g.cK 9 a bl ?_;refine g.ret ?_;exact⟨t,.inl a,a,a,_,_,_,a,a,a,a⟩
abbrev tq(a:m an)(e:dT)(_ b d:Bool):m an:=
 match b,d with
 |false,_=>a
 |true,l=>a++[tV]
 |true,f=>a++[gh e]
def acQ{Q}(a:qy Q=l):js Q=Q:=by
 obtain⟨e,d,b⟩:=Q;cases b with
 |nil=>rfl
 |cons g i=>cases a
abbrev aeU(e:Int)(g b:dT)(a:Bool)(d:Nat):z:=
 [aG 8 0,aG 8 0,aG 8 0,S e,aG 8 0,aG 8 0,aG 8 1,fQ g,jY b a,jY b a,fQ b,bh a,aG 10 0,.any,bh a].getD d .any
set_option maxRecDepth 20000 in
def XM(A d)(m)(e)(i)(b)(o)(B:fP k b)(J:k<=1000)(D:ha i b.1=f)(F:o.1=5):md 24 A d m e i b o:=by
 unfold md;have r:cl i b o=((js b.1,b.2),qy b.1):=by unfold cl;simp[F]
 have C:=Xv i b.1 (B.a.dY y) B.a.bc.dv;have t:zh i b.1=(js b.1,qy b.1):=br D;rw[t]at C;have u:=acQ (Q:=b.1);rw[r];generalize js b.1=p at *;generalize qy b.1=q at *;have j:a8 (aj.aJ V) [(50,ev [S i,fQ b.1] (jY p q))]:=.cons (eI C) .nil;refine bk.bP func24 rfl rfl rfl (g.aW ?_);refine bf j [(1000001,f)] a v ?_;refine g.cu b6 (aeU i b.1 p q) (lR (tq (xm A d m e i b (aA.fn b.2.2.2)++[qo o]) p) 14 12 13) a a a a
  ⟨.aE,.aE,.aE,.aE,.aE,.aE,.aE,.aE,.dt bd j (cw:=by exact a),.aE,.aE,.aE,
  cp.eB a a a a a (λx=>by cases x<;>exact ee (bg:=[]) bd j (ao:=h _) a v),
  cp.eC a a a a a (λx=>by cases x<;>exact ee (bg:=[]) bd j (ao:=h _) a v),
  cp.eA a a a a (λs I=>by cases s<;>cases I<;>exact aV.y),v⟩ ?_
 intro z w;show g (aj.aJ V) _ _ _ _ _ (tq _ p (z 14) (z 12) (z 13));rw[w 14 ca,w 12 ca,w 13 ca];cases q with
 |true=>
  exact bf j [(19,f)] a E E5
 |false=>
  obtain rfl:=u rfl;exact bf j [(19,l)] a E E5
abbrev aeT(e:Int)(g b:dT)(cY:m Int)(a:Bool)(d:Nat):z:=
 [aG 8 0,aG 8 0,aG 8 0,S e,aG 8 0,aG 8 0,aG 8 1,aG 8 1,b1 g.1,aG 9 7,aA.S cY,jY b a,jY b a,fQ b,bh a,aG 10 0,.any,bh a].getD d .any
set_option maxRecDepth 20000 in
def XI(A d)(o)(C)(i)(b)(e)(t:fP k b)(B:ha i b.1=f)(y:e.1=4):md 23 A d o C i b e:=by
 unfold md;by_cases u:c b.1.2.2=0
 rotate_left
 .have j:cl i b e=(b,l):=by unfold cl;simp[y,u]
  rw[j];refine bk.bP func23 rfl rfl rfl (g.aW ?_);exact bQ [(13,f)] a NN wA
 have j:cl i b e=(((kF i b.1.1 e.2.2.2.2).1,b.2),f):=by unfold cl;simp[y,u]
 have w:=TG i b.1.1 e.2.2.2.2 t.a.bc.dv t.a.bc.toj6.fT;have q:(kF i b.1.1 e.2.2.2.2).2=f:=by unfold kF;rw[br (vY.2 (v8.1 B).tomh)]
 rw[q]at w;rw[j];generalize(kF i b.1.1 e.2.2.2.2).1=p at *;have m:a8 (aj.aJ V) [(49,ev [S i,b1 b.1.1,aA.S e.2.2.2.2] (jY p f))]:=.cons (eI w) .nil;refine bk.bP func23 rfl rfl rfl (g.aW ?_);refine bf m [(13,l),(1000003,f)] a NL ?_;refine g.cu b6 (aeT i b.1 p e.2.2.2.2 f) (lR (tq (xm A d o C i b (aA.fn b.2.2.2)++[qo e]) p) 17 15 16) a a a a
  ⟨.aE,.aE,.aE,.aE,.aE,.aE,.aE,.aE,.aE,.aE,.aE,.dt bd m (cw:=by exact a),.aE,.aE,.aE,
  cp.eB a a a a a (λx=>by cases x<;>exact ee (bg:=[]) bd m (ao:=h _) a v),
  cp.eC a a a a a (λx=>by cases x<;>exact ee (bg:=[]) bd m (ao:=h _) a v),
  cp.eA a a a a (λs I=>by cases s<;>cases I<;>exact aV.y),v⟩ ?_
 intro z r;show g (aj.aJ V) _ _ _ _ _ (tq _ p (z 17) (z 15) (z 16));rw[r 17 ca,r 15 ca,r 16 ca];exact bf m [(29,f)] a E E5
abbrev aeV(g:Int)(j d:dT)(a:Int)(i:m c')(b:Bool)(e:Nat):z:=
 [aG 8 0,aG 8 0,aG 8 0,S g,aG 8 0,aG 8 0,aG 8 1,fQ j,aG 9 1,S a,aG 9 2,bD.S i,jY d b,jY d b,fQ d,bh b,aG 11 0,.any,bh b].getD e .any
set_option maxRecDepth 20000 in
def XL(t A)(C)(J)(i)(b)(j)(p:fP k b)(Y:k<=1000)(M:j.1=1):md 20 t A C J i b j:=by
 unfold md;have F:a8 (aj.aJ V) [(45,Bn),(46,rv)]:=.cons Mw (.cons t46 .nil);by_cases e:1<=j.2.1/\j.2.1<=2
 rotate_left
 .have B:cl i b j=(b,l):=by unfold cl;simp[M,e]
  rw[B];refine bk.bP func20 rfl rfl rfl (g.aW ?_);exact bf F [(11,f),(16,f)] a (by simp[ru,e]) wA
 cases aa:dV j.2.2.1 with
 |false=>
  have B:cl i b j=(b,l):=by unfold cl;simp[M,aa]
  rw[B];refine bk.bP func20 rfl rfl rfl (g.aW ?_);exact bf F [(11,l),(16,f)] a Rf wA
 |true=>
 have B:cl i b j=oJ i b j.2.1 j.2.2.1:=by unfold cl;simp[M,e,aa]
 rw[B];have R:=tj (cg:=j.2.1) (b:=b.1.1) (d:=b.2.1) (bc:=b.2.2) p.bj p.b4;have N:=Ir (r:=aj.aJ V) t A C J j i b.1 b.2.1 j.2.1 b.2.2.1 b.2.2.2 p.a.bc.dR e p.bj p.b4;have O:=Xt t A i b.1 j.2.1 j.2.2.1 (p.a.dY y) p.a.bc.dv p.a.bc.e' nO;have X:=DZ (i:=i) (cg:=j.2.1) (q:=j.2.2.1) p.a;unfold oJ;rw[show((b.2.2.1,b.2.2.2):m (Int×Int)×m Int)=b.2.2 from a]at N;generalize hn j.2.1 b.1.1 b.2.1 b.2.2=o at *;have K:o.2.getD (0+(j.2.1-1).toNat) aA.I=o.2.getD (j.2.1-1).toNat 0:=q7;refine bk.bP func20 rfl rfl rfl (g.aW ?_);refine bf F [(11,l),(16,l)] a Rf (g.cJ N a a a a E a λw=>?_);refine bQ [(1000004,f)] a v (g.bf (n6 t A C J i b.1 b.2.1 o.1 (aA.fn o.2) j++[.x]) a t0 ?_);by_cases u:o.2.getD (j.2.1-1).toNat 0=0
 rotate_left
 .rw[bm (λp=>u p.1)];refine bQ [(31,f),(38,f)] a ?_ ?_
  .simp only[U,K,a7,jC,dZ,ba,a9];and_intros<;>first|exact u|omega
  exact Pn
 by_cases D:b.2.1.1=0
 rotate_left
 .rw[bm (λp=>D p.2)];refine bQ [(31,l),(38,f)] a ?_ ?_
  .simp only[U,K,u,a7,jC,h0,dZ,ba,a9];and_intros<;>first|exact D|omega
  exact Pn
 rw[br ⟨u,D⟩];refine bQ [(31,l),(38,l),(1000006,f)] a ?_ ?_
 .simp only[U,K,u,D,a7,h0,ba,a9];omega
 refine g.cu b6 (aeV i b.1 (fV i b.1 j.2.1 j.2.2.1).1 j.2.1 j.2.2.1 (fV i b.1 j.2.1 j.2.2.1).2) (lR (tq (n6 t A C J i b.1 b.2.1 o.1 (aA.fn o.2) j++[.x]) (fV i b.1 j.2.1 j.2.2.1).1) 18 16 17) a a a a
  ⟨.aE,.aE,.aE,.aE,.aE,.aE,.aE,.aE,.aE,.aE,.aE,.aE,
  cp.eK a a a (λx s I=>aV.dU (by cases s<;>cases I<;>exact dx.dk O.tocD [0,1,2] a a a a a a a bl a bl)),
  .aE,.aE,.aE,
  cp.eB a a a a a (λx=>by cases x<;>exact ee (bg:=[]) bd F (ao:=h _) a v),
  cp.eC a a a a a (λx=>by cases x<;>exact ee (bg:=[]) bd F (ao:=h _) a v),
  cp.eA a a a a (λs I=>by cases s<;>cases I<;>exact aV.y),v⟩ ?_
 intro z Q;show g (aj.aJ V) _ _ _ _ _ (tq _ (fV i b.1 j.2.1 j.2.2.1).1 (z 18) (z 16) (z 17));rw[Q 18 ca,Q 16 ca,Q 17 ca];cases jH:(fV i b.1 j.2.1 j.2.2.1).2 with
 |false=>
  rw[bm E];refine bQ [(56,f)] a uc (g.eM 1 ?_);refine g.cK 9 a bl ?_;refine g.cK 11 a bl ?_;refine g.ret ?_;exact⟨⟨_,bt.same⟩,.inl a,a,a,_,_,_,a,a,a,a⟩
 |true=>
  rw[br a];have T:=(X jH).1;generalize(fV i b.1 j.2.1 j.2.2.1).1=w2 at *;have S:=TZ (r:=aj.aJ V) t A C J j w2 i w2 b.2.1 j.2.1 o.1 o.2 T.bc.dR e R.1 R.2;rw[show((o.1,o.2):m (Int×Int)×m Int)=o from a]at S;refine bQ [(56,l)] a uc (g.cJ S a a a a E a λW=>?_);refine cu a v (g.cK 9 a bl ?_);refine g.cK 11 a bl ?_;refine g.ret ?_;exact⟨W,.inl a,a,a,_,_,_,a,a,a,a⟩
section
variable {r:aj V}
def TU(d)(i:c d<=4000000):Y r 52 [a1.S d] [] (cz 0 (.S (c d) 2 0 (c d))) [.h 46 2 (c d) (a1.fn d)]:=by
 refine Y.K func52 rfl λj=>?_;refine aZ a v (g.et bd a a a a a a λb e=>?_);cases b with
 |true=>
  obtain rfl:=jA (e rfl);refine aZ a v (g.fb 2 46 2 (a1.fn []) a ?_);exact E_
 |false=>
  refine gJ [] 7 a v (g.dJ 5 46 2 (a1.fn []) a ?_);refine aZ a ⟨a,a,show(0+c d)*16<=_ by omega⟩ (g.bf [.h 46 2 (c d) (a1.fn d)] a ?_ ?_)
  .simp[bt,ce]
  exact Fk
abbrev uI(a:dT):an:=.h 70 2 (c a.1.1) (a2.fn a.1.1)
abbrev xg(cY:m (Int×Int)):an:=.h 46 2 (c cY) (a1.fn cY)
abbrev Nd(a:eT):m O:=.c (.int .i64 a.1)::([.R 2 (.S (c a.2.1.1.1) 2 0 (c a.2.1.1.1)),cI bj a.2.1.1.2.1,cI a1 a.2.1.1.2.2,cI aA a.2.1.2.1,cI aA a.2.1.2.2]++vp a.2.2.1++[.R 3 (.S (c a.2.2.2.1) 2 0 (c a.2.2.2.1)),.R 4 (.S (c a.2.2.2.2) 1 0 (c a.2.2.2.2))])
def H2(a:eT)(b d e g:Bool):m an:=
 match b,d,e,g with
 |true,f,f,f=>[mX a,.cells 35 (Nd a),uI a.2.1,xg a.2.2.2.1,jF (c a.2.2.2.2) a.2.2.2.2]
 |true,f,f,l=>[mX a,fO,uI a.2.1,xg a.2.2.2.1,jF (c a.2.2.2.2) a.2.2.2.2]
 |true,f,l,_=>[mX a,fO,uI a.2.1,xg a.2.2.2.1]
 |true,l,_,_=>[mX a,fO,uI a.2.1]
 |false,_,_,_=>[mX a,fO]
abbrev aeJ(a:eT)(b:Nat):z:=
 [aG 0 0,S a.1,aG 0 1,fQ a.2.1,.n (.agg [.R 2 (.S (c a.2.1.1.1) 2 0 (c a.2.1.1.1)),cI bj a.2.1.1.2.1,cI a1 a.2.1.1.2.2,cI aA a.2.1.2.1,cI aA a.2.1.2.2]),aG 0 6,ei a.2.2.1,aG 0 10,a1.S a.2.2.2.1,cz 3 (.S (c a.2.2.2.1) 2 0 (c a.2.2.2.1)),
  aG 0 11,aA.S a.2.2.2.2,cz 4 (.S (c a.2.2.2.2) 1 0 (c a.2.2.2.2)),.n (.agg (Nd a)),.any].getD b .any
set_option maxRecDepth 20000 in
def XH(b)(k:dN b.2.1.1)(I:c b.2.1.2.1<=4000000)(i:c b.2.1.2.2<=4000000)(d:c b.2.2.2.1=2)(s:c b.2.2.2.2=2):
  Y r 25 [fq b] [] (.n (.agg (gL b.1 b.2.1 b.2.2.1 0))) (lk b.2.2.2.1 b.2.2.2.2):=by
 refine Y.bl bd func25 rfl rfl rfl λm=>?_
 have x:a8 r [(51,k6 [fQ b.2.1] [] (.n (.agg [.R 0 (.S (c b.2.1.1.1) 2 0 (c b.2.1.1.1)),cI bj b.2.1.1.2.1,cI a1 b.2.1.1.2.2,cI aA b.2.1.2.1,cI aA b.2.1.2.2])) [uI b.2.1]),
   (52,k6 [a1.S b.2.2.2.1] [] (cz 0 (.S (c b.2.2.2.1) 2 0 (c b.2.2.2.1))) [xg b.2.2.2.1]),
   (53,k6 [aA.S b.2.2.2.2] [] (cz 0 (.S (c b.2.2.2.2) 1 0 (c b.2.2.2.2))) [jF (c b.2.2.2.2) b.2.2.2.2])]:=
  .cons (l7 (I5 b.2.1 k I i)) (.cons (l7 (TU b.2.2.2.1 y)) (.cons (l7 (Io b.2.2.2.2 y)) .nil))
 refine bf x [(1000001,f)] a v ?_;refine g.cu b6 (aeJ b) (mx (H2 b) 4 9 12 14) a a a a
  ⟨.aY,.aY,.aY,.aY,
  cp.ay a a a a a a (ee (bg:=[]) bd x (ao:=h _) a ⟨rfl,rfl⟩),
  .aY,.aY,.aY,.aY,
  cp.eR a a a a a a (ee (bg:=[]) bd x (ao:=h _) a ⟨rfl,rfl⟩),
  .aY,.aY,
  cp.eT a a a a a a (ee (bg:=[]) bd x (ao:=h _) a ⟨rfl,rfl⟩),
  .aY,
  cp.eU a a a a a a (ee (bg:=[]) bd x (ao:=h _) a v),v⟩ ?_
 intro z j;show g r _ _ _ _ _ (H2 b (z 4) (z 9) (z 12) (z 14));rw[j 4 ca,j 9 ca,j 12 ca,j 14 ca];refine qQ x [] 1 a v (g.bw 2 a a a E E (g.bf [mX b,.cells 35 (gL b.1 b.2.1 b.2.2.1 3),.x,.h 46 2 2 (a1.fn b.2.2.2.1),.h 3 1 2 (aA.fn b.2.2.2.2)] a ?_ ?_))
 .simp[hz,d,s]
 refine g.bh () [3,4] ?_ (λo e=>absurd e E);simp
end
abbrev Nn:eT:=(0,kV,kU,[],[])
def iN(a:eT)(b:gz):eT×Bool:=if fY a=f then((a.1,(cl a.1 a.2 b).1),(cl a.1 a.2 b).2)else(Nn,l)
abbrev v_(a:eT×Bool):z:=.Q [.agg (lx a.1),.aq (.c (.bool a.2))]
def wl{a}(b:fY a=f):c a.2.2.2.1=2/\c a.2.2.2.2=2/\ha a.1 a.2.1=f:=by simp only[fY,cE,bA]at b;exact⟨b.1.1.1,b.1.1.2,b.2⟩
abbrev u9(a:Nat):m N:=[.fn (.func a) [] []]
abbrev Ey:m (m N):=[u9 20,u9 21,u9 22,u9 23,u9 24]
abbrev XY(a:Nat):Nat:=[20,21,22,23,24].getD (a-1) 0
abbrev wm(a:Int)(e:gz)(d:Bool)(b:Nat):z:=
 [ax (.S f 1 5 λb=>Ey.getD b []),aG 4 0,S a,S (a-1),ax (.O (Ey.getD (a-1).toNat [])),ax ((Ey.getD (a-1).toNat []).getD 0 (.bool l)),k' e,bh d,bh d].getD b .any
set_option maxRecDepth 20000 in
def XO(o j)(b)(i)(k)(u:fb (6000+240*k) b.2.1)(I:k<=1000):
  Y (aj.aJ V) 7 [fq b,k' i] (iB o j) (v_ (iN b i)) (iB o j):=by
 refine Y.bl bd func7 rfl rfl rfl λz=>?_;have x:a8 (aj.aJ V) [(19,ev [fq b] (bh (fY b)))]:=.cons (eI (I_ b (u.dY y))) .nil;unfold iN;cases bU:fY b with
 |false=>
  exact bf x [(11,f)] a j3 nN
 |true=>
 obtain⟨B,D,F⟩:=wl bU;have t:fP k b.2:=⟨u,B,D⟩;have N:=u.b9 y
 rw[br a];refine bf x [(11,l)] a j3 (g.aF (XH b N.bc (by have:=u.b8;omega) (by have:=u.cL;omega) B D) [] a ?_);by_cases M:1<=i.1/\i.1<=5
 rotate_left
 .have O:cl b.1 b.2 i=(b.2,l):=by unfold cl;grind
  rw[O];apply g.cg [(2,aG 3 0),(3,aG 4 0),(4,aG 5 0),(7,aG 8 0)] (py o j b i++lk b.2.2.2.1 b.2.2.2.2++[pN b.1 b.2.1 b.2.2.1])
  .intro du;by_cases J:i.1<1
   .exact bf x [(19,f),(23,f),(1000006,f)] a (by simp[J]) kx
   exact bf x [(19,l),(23,f),(1000006,f)] a bV kx
  refine g.bw 6 a a a E E (g.bw 7 a a a E E (cJ x a v (g.cq () [0,1,2] ?_ nk)));simp[hz,B,D]
 have bz:md (XY i.1.toNat) o j b i b.1 b.2 i:=by
  have A:i.1=1∨i.1=2∨i.1=3∨i.1=4∨i.1=5:=y;rcases A with s|s|s|s|s<;>rw[s]
  .exact XL o j b i b.1 b.2 i t I s
  .exact XK o j b i b.1 b.2 i t s
  .exact XJ o j b i b.1 b.2 i s
  .exact XI o j b i b.1 b.2 i t F s
  exact XM o j b i b.1 b.2 i t I F s
 unfold md at bz;have C:(cl b.1 b.2 i).1.2.2.1.length=2/\(cl b.1 b.2 i).1.2.2.2.length=2:=⟨(t.do).bj,(t.do).b4⟩;refine bf x [(19,l),(23,l),(1000007,f)] a bV ?_
 generalize K:cl b.1 b.2 i=e at *;have A:i.1=1∨i.1=2∨i.1=3∨i.1=4∨i.1=5:=y;obtain⟨s,d,r,m,q⟩:=i;simp only at A bz;rcases A with rfl|rfl|rfl|rfl|rfl
 .refine g.df b6 7 (λp=>ay p 6) (wm 1 (1,d,r,m,q) e.2) (λ(_:qr e.1.2.2.2) p=>[bh e.2,bh e.2].getD (p-7) .any) (λw=>qf o j b (1,d,r,m,q) b.1 e.1 w.1) a a a a a a wv wu ww ?_;intro w;refine g.bf (py o j b (1,d,r,m,q)++lk e.1.2.2.1 e.1.2.2.2++[pN b.1 e.1.1 e.1.2.1,.x,.x,.x,.x]) a t0 ?_;exact wt
 .refine g.df b6 7 (λp=>ay p 6) (wm 2 (2,d,r,m,q) e.2) (λ(_:qr e.1.2.2.2) p=>[bh e.2,bh e.2].getD (p-7) .any) (λw=>qf o j b (2,d,r,m,q) b.1 e.1 w.1) a a a a a a wv wu ww ?_;intro w;refine g.bf (py o j b (2,d,r,m,q)++lk e.1.2.2.1 e.1.2.2.2++[pN b.1 e.1.1 e.1.2.1,.x,.x,.x,.x]) a t0 ?_;exact wt
 .refine g.df b6 7 (λp=>ay p 6) (wm 3 (3,d,r,m,q) e.2) (λ(_:qr e.1.2.2.2) p=>[bh e.2,bh e.2].getD (p-7) .any) (λw=>qf o j b (3,d,r,m,q) b.1 e.1 w.1) a a a a a a wv wu ww ?_;intro w;refine g.bf (py o j b (3,d,r,m,q)++lk e.1.2.2.1 e.1.2.2.2++[pN b.1 e.1.1 e.1.2.1,.x,.x,.x,.x]) a t0 ?_;exact wt
 .refine g.df b6 7 (λp=>ay p 6) (wm 4 (4,d,r,m,q) e.2) (λ(_:qr e.1.2.2.2) p=>[bh e.2,bh e.2].getD (p-7) .any) (λw=>qf o j b (4,d,r,m,q) b.1 e.1 w.1) a a a a a a wv wu ww ?_;intro w;refine g.bf (py o j b (4,d,r,m,q)++lk e.1.2.2.1 e.1.2.2.2++[pN b.1 e.1.1 e.1.2.1,.x,.x,.x,.x]) a t0 ?_;exact wt
 refine g.df b6 7 (λp=>ay p 6) (wm 5 (5,d,r,m,q) e.2) (λ(_:qr e.1.2.2.2) p=>[bh e.2,bh e.2].getD (p-7) .any) (λw=>qf o j b (5,d,r,m,q) b.1 e.1 w.1) a a a a a a wv wu ww ?_;intro w;refine g.bf (py o j b (5,d,r,m,q)++lk e.1.2.2.1 e.1.2.2.2++[pN b.1 e.1.1 e.1.2.1,.x,.x,.x,.x]) a t0 ?_;exact wt
section
variable {r:aj V}
abbrev EH(a:eT)(d b:Nat):m O:=.c (.int .i64 a.1)::([cI a2 a.2.1.1.1,cI bj a.2.1.1.2.1,cI a1 a.2.1.1.2.2,cI aA a.2.1.2.1,.r d 1 (c a.2.1.2.2) (aA.fn a.2.1.2.2)]++vp a.2.2.1++[.R b (.S 2 2 0 2),.R (b+1) (.S 2 1 0 2)])
def T8(a)(e:p0 a.2.1)(b:c a.2.2.2.1=2)(d:c a.2.2.2.2=2):Y r 18 [fq a] [] (.n (.agg (EH a 0 1))) ([hQ a.2.1]++g7 a.2):=by have:=u4 (r:=r) a e y y;simp only[zx,BZ,b,d]at this;exact this
abbrev mW(b:eT)(a:gz):m an:=[.cells 35 (lx b),qo a,fO]
abbrev yH:an:=.J λ_ _=>False
def aaI(u:bb (p++[yH]) b):False:=by have a:c p<c b.l:=ES;obtain⟨_,d,_⟩:=u.box (c p) yH _ wT (bI a);exact d.elim
def DY(a:eT)(b:gz)(i:Option Bool)(g d e:Bool):m an:=
 match i with
 |none=>match d with
  |false=>mW a b
  |true=>mW a b++[fO]
 |some f=>match g,d,e with
  |false,l,_=>mW a b++[fO,hQ a.2.1]++g7 a.2++[yH]
  |true,l,_=>mW a b++[fO,hQ a.2.1]++g7 (cl a.1 a.2 b).1++[yH]
  |false,f,_=>mW a b++[fO,hQ a.2.1]++g7 a.2
  |true,f,l=>mW a b++[fO,hQ a.2.1]++g7 (cl a.1 a.2 b).1
  |true,f,f=>mW a b++[.cells 35 (gL a.1 (cl a.1 a.2 b).1.1 (cl a.1 a.2 b).1.2.1 5),hQ a.2.1]++g7 (cl a.1 a.2 b).1
 |some l=>match g,d,e with
  |false,l,_=>mW a b++[hQ a.2.1]++g7 a.2
  |false,f,_=>mW a b++[hQ a.2.1]++g7 a.2++[fO]
  |true,l,_=>mW a b++[hQ a.2.1]++g7 (cl a.1 a.2 b).1
  |true,f,l=>mW a b++[hQ a.2.1]++g7 (cl a.1 a.2 b).1++[fO]
  |true,f,f=>mW a b++[hQ a.2.1]++g7 (cl a.1 a.2 b).1++[.cells 35 (gL a.1 (cl a.1 a.2 b).1.1 (cl a.1 a.2 b).1.2.1 4)]
def q0(a:eT)(b:gz)(e:Option Bool)(d:Nat):z:=
 match e with
 |none=>[fq a,.any,k' b,.any,.any,.any,.any,aG 3 0,.any,.any].getD d .any
 |some f=>[fq a,.n (.agg (EH a 4 5)),k' b,.Q [.agg (gL a.1 (cl a.1 a.2 b).1.1 (cl a.1 a.2 b).1.2.1 5),.aq (.c (.bool (cl a.1 a.2 b).2))],.Q [.agg (gL a.1 (cl a.1 a.2 b).1.1 (cl a.1 a.2 b).1.2.1 5),.aq (.c (.bool (cl a.1 a.2 b).2))],.n (.agg (gL a.1 (cl a.1 a.2 b).1.1 (cl a.1 a.2 b).1.2.1 5)),bh (cl a.1 a.2 b).2,aG 3 0,.any,bh (cl a.1 a.2 b).2].getD d .any
 |some l=>[fq a,.n (.agg (EH a 3 4)),k' b,.Q [.agg (gL a.1 (cl a.1 a.2 b).1.1 (cl a.1 a.2 b).1.2.1 4),.aq (.c (.bool (cl a.1 a.2 b).2))],.Q [.agg (gL a.1 (cl a.1 a.2 b).1.1 (cl a.1 a.2 b).1.2.1 4),.aq (.c (.bool (cl a.1 a.2 b).2))],.n (.agg (gL a.1 (cl a.1 a.2 b).1.1 (cl a.1 a.2 b).1.2.1 4)),bh (cl a.1 a.2 b).2,aG 6 0,.any,bh (cl a.1 a.2 b).2].getD d .any
def Ng{R:Prop}(u:R:=by intro I x j s;rcases I with _|w<;>(try cases w)<;>cases x<;>cases j<;>cases s<;>rfl):R:=u
def zz{R:Prop}(u:R:=by intro w x j s;cases w<;>cases x<;>cases j<;>cases s<;>rfl):R:=u
def fP.j8{b}(a:fP k b)(d:k<=1001):p0 b.1:=a.a.b9 y
set_option maxRecDepth 20000 in
theorem XP(b)(i)(k)(Q:fb (6000+240*k) b.2.1)(G:k<=1000):
  Y r 6 [fq b,k' i] [] (v_ (iN b i)) []:=by
 refine Y.bl bd func6 rfl rfl rfl λH=>?_;have s:a8 r [(9,ev [fq b] (bh (fY b)))]:=.cons (eI (I' b (Q.b9 y).b8)) .nil;unfold iN;cases bU:fY b with
 |false=>
  exact bf s [(10,f)] a j3 OF
 |true=>
 obtain⟨S,N,ah⟩:=wl bU;have ab:fP k b.2:=⟨Q,S,N⟩;have ad:=Q.b9 y
 rw[br a];have O:=T8 (r:=r) b ad S N;have o:=Iy (r:=r) b.1 b.2 i k ab G;have I:fP (k+1) (cl b.1 b.2 i).1:=ab.do;refine bf s [(10,l),(1000003,f)] a j3 ?_;refine g.g_ b6 (q0 b i) (mg (DY b i) 3 7 8) (mb Bool 1) n a a a a a
   ⟨.fP bd s Ng,
   ez.iQ a a a a a (λj w=>w=j) (λj w K J=>by
    subst K
    match J with
    |0=>exact .inr (.inr (.inr zA))
    |1=>exact .inl rfl
    |2=>exact .inr (.inr (.inr zA))
    |3=>exact .inr (.inl rfl)
    |4=>exact .inr (.inl rfl)
    |5=>exact .inr (.inl rfl)
    |6=>exact .inr (.inl rfl)
    |7=>cases w with
     |false=>exact .inr (.inr (.inl ⟨rfl,rfl⟩))
     |true=>exact .inr (.inr (.inr rfl))
    |8=>exact .inr (.inr (.inr zA))
    |9=>exact .inr (.inl rfl)
    |J+10=>exact .inr (.inr (.inr zA))) (λj=>by
     intro aa x V M dU X A T W e K D B;cases j
     .exact dx.dk O.tocD [] a a a a a a a bl a bl aa x V M dU X A T W e K D λ_ R u m p q=>B ⟨l,a⟩ R u m p q
     .exact dx.dk O.tocD [] a a a a a a a bl a bl aa x V M dU X A T W e K D λ_ R u m p q=>B ⟨f,a⟩ R u m p q),
   .fP bd s Ng,
   ez.gZ a a a a a (λw x=>aV.dU (by
    cases w
    .cases x
     .exact Ps
     exact Ps
    .cases x
     .exact dx.bV o.tocD [5,6] a a a a E a a a bl a bl
     .exact dx.bV o.tocD [5,6] a a a a E a a a bl a bl)),
   .dV bd s zz,
   .dV bd s zz,
   .dV bd s zz,
   ez.g1 rfl rfl rfl rfl (λF x=>by rcases F with _|J<;>(try cases J)<;>cases x<;>first|exact ee (bg:=[]) bd s (ao:=h _) rfl v|exactλ_ _ _ M=>(aaI M).elim),
   ez.g2 a a a a a a (λw=>by cases w<;>exact ee (bg:=[]) bd s (ao:=h _) a v),
   .dV bd s zz,v⟩ ?_
 intro F z ae C;have ag:F.isSome=f:=(show F.isSome=z 1 from ae).trans (C 1 ca);have d:=I.bj;have t:=I.b4;have Z:=T7 (r:=r) (b.1,(cl b.1 b.2 i).1) (I.j8 y) (by simp only;omega) (by simp only;omega);cases F with
 |none=>cases ag
 |some w=>
 show g r _ _ _ _ _ (DY b i (h w) (z 3) (z 7) (z 8));rw[C 3 ca,C 7 ca,C 8 ca];cases w with
 |false=>
  refine qQ s [] 1 a v (g.bw 4 a a a E E (g.bw 5 a a a E E (cJ s a v (g.bV Z.tocD [] a a a a O2 a a a bl a bl a ?_))));exact Oh
 |true=>
  refine qQ s [] 1 a v (g.bw 5 a a a E E (g.bw 6 a a a E E (cJ s a v (g.bV Z.tocD [] a a a a O2 a a a bl a bl a ?_))));exact Oh
end
section
variable {r:aj V}
def Ce(b)(e:dN b.2.1.1)(j:c b.2.2.2.1<=4000000):Y r 8 [fq b,fq b] [] (bh f) []:=by
 refine Y.K func8 rfl λk=>?_;have x:a8 r [(10,ev [fQ b.2.1,fQ b.2.1] (bh f)),(11,xx)]:=.cons (eI (IF b.2.1 e)) (.cons Er .nil);refine bf x [(11,l),(19,l),(26,l),(35,l),(42,l)] a (by simp[aA.U,aA.E]) (g.aL 2 (λd=>d<=c b.2.2.2.1) (λd:Nat=>[(2,aG 0 0),(3,aG 1 0),(5,S d)]) (λ_=>[.cells 35 (lx b),.cells 35 (lx b)]) (λd=>c b.2.2.2.1-d) 0 a E a E a y ?_);intro d i;by_cases m:d<c b.2.2.2.1
 .refine bf x [(47,f),(60,l)] a ?_ (g.aA (d+1) a ?_ ?_ ?_ ?_)
  .simp only[U,a7,fZ,f_,h0,bA,ba,a9];and_intros<;>first|omega|rfl|simp
  .simp
  .simp
  .grind
  omega
 refine bf x [(47,l)] a bV (g.aC ?_);exact zL
end
structure rb where
 cz:nS 0
 n:{R:gz×Nat // z' cz.k1 R}
abbrev rb.a(a:rb):eT:=a.cz.a
abbrev rb.fA(a:rb):gz:=a.n.1.1
section
variable {r:aj V}[r.b']
set_option maxRecDepth 20000 in
def Iz(A)(d:Nat->Int)(m:Bytes d)(o:A<=1048576):
  bk (ι:=rb) r 5 [ax (.S l 1 A (qg d))] [] (λk=>.Q [.agg (lx k.a),.agg (B8 k.fA)]) (λ_=>[]):=by
 refine bk.hf func5 rfl rfl (fc rfl) (g.aW ?_);refine aZ a v (g.a_ (Wj A d o) [] a bl ?_);rintro⟨i,b⟩;refine aZ a v (g.a_ (XN i d m 0 y b) [2] a bl ?_);intro e;have q:=e.gk;refine aZ a v (g.a_ (IA i d m e.k1 y b) [2] a bl ?_);intro j;refine aZ a v (g.bw 4 a a a E E (g.bw 5 a a a E E (g.bf [.cells 35 (lx e.a),qo j.1.1,ef i d j.1.2,hQ e.a.2.1,.x,.x] a ?_ ?_)))
 .simp[hz]
 refine g.freeze 2 0 a a a ?_;refine g.freeze 3 1 a a a ?_;refine g.bQ (λ_ _ _ p=>⟨⟨e,j⟩,p⟩) ?_;exact Qe
end
def nS.d_(a:nS 0):fb (6000+240*8) a.a.2.1:=by rw[(Ec a.v (fS a.dM)).1];exact(vM a.dM).a.mono (by have:=a.gl;omega)
structure FM(Q:eT)(ai:gz):Prop where
 bc:∀{r:aj V},Y r 6 [fq Q,k' ai] [] (v_ (iN Q ai)) []
 a9:∀Id Ie,Y (aj.aJ V) 7 [fq Q,k' ai] (iB Id Ie) (v_ (iN Q ai)) (iB Id Ie)
 hi:∀{r:aj V},Y r 8 [fq (iN Q ai).1,fq (iN Q ai).1] [] (bh f) []
 ok:∀{r:aj V},Y r 9 [fq Q] [] (bh (fY Q)) []
 ko:∀{r:aj V},fY Q=f->Y r 8 [fq Q,fq Q] [] (bh f) []
 j5:fY Q=f->fP 1001 (cl Q.1 Q.2 ai).1
 d_:fb (6000+240*8) Q.2.1
def B3{b}{ai}(d:fb (6000+240*8) b.2.1):FM b ai:=by
 have g:fY b=f->fP 8 b.2:=λa=>⟨d,(wl a).1,(wl a).2.1⟩
 have e:fY b=f->fP 9 (cl b.1 b.2 ai).1:=λa=>(g a).do;refine⟨XP b ai 8 d y,λj i=>XO j i b ai 8 d y,?_,I' b (d.b9 y).b8,λa=>?_,λa=>(e a).mono y,d⟩
 .unfold iN;cases a:fY b with
  |false=>exact Ce Nn ⟨by simp,by simp,by simp,by simp[lq],by simp⟩ E
  |true=>exact Ce (b.1,(cl b.1 b.2 ai).1) (e a).a.bc.dv (by have:=(e a).bj;simp only;omega)
 .exact Ce b d.bc.dv (by have:=(g a).bj;omega)
def rb.do(a:rb):FM a.a a.fA:=B3 a.cz.d_
end R1
end Go.AM
