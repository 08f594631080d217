/- Part 5. No condition. -/
import Derived.Test.YtipjbfhldjgbnaaGreatDoorA4
import Derived.Conc.CrowdComm
import Derived.Conc.SmallLaws
import Derived.Conc.EventLaws
set_option linter.all false
set_option maxHeartbeats 8000000
open Go.Proofs
open Go.Proofs.Tryz
open List renaming length → c, range → aB, getD_eq_getElem?_getD → al
open Go renaming Value → Z, TypeId → aq, World → au, Frame → aL, execOp → ac, Operand → aA, Program → aI, Goroutine → ak, Oper → ap
open Option renaming some → f, none → p
open Bool renaming true → m, false → v
open Nat renaming beq → af, ble → ay
open Go.Op renaming bytesLess → aW, equalIn → aQ
open Go.Proofs.Tryz renaming prog → T
namespace Go.AM
variable {j z:Nat}{h:Int}{d i e u:Nat}{W:aq}{H:Z->(Nat->Option Obj)->Prop}{L:Array Bool}{bD:Mem}{D:Nat}{P:aI}{bq:ak->a5->Prop}{r:Code}{B:ak}{s:ap}{b:a5}{o:aq}{aa:Z}{k X:aA}{α:Type}{η:aA->y}{ι:Type}{l:n an}{F:bI}{all:n ap}{dn:Array aq}{cap:n O}{cR:n y}{lc:Nat->Option Obj}{ai:n aL}{bg:n (Nat×Bool)}{V:Nat->n O}{cP:aA}{gs:Array ak}{aS:n Nat}{cg:n Prop}{off:Nat}{op:BinOp}{aH:Array ap}{ab:n Prop}{bs:n ap}{az:a5}{ty:aq}{val:Nat->Nat->Z}{A:n Z}{bj:au}{ah:Array aA}{ao de:n an}{res:ι->y}{aO:ι->n an}
variable {CT:n (Nat×bK)}{av:n ik}{be:fv}{ad:n (Nat×bv)}{a4:bv}
namespace R1
abbrev AH(d:n cZ):Prop:=d.Pairwise λa b=>aW a.1 b.1=m
def ae3{o}(g:dX o=m):AH o:=by simp only[dX,cC]at g;have i:=f'.1 g.1;rw[AH,pd];intro e k b d a;rw[pr b,pr d];refine L' (o:=o) (e:=k) (λl j h=>?_) e a;have:=i l x;simp[iW,cC,jG,gZ]at this;grind
def E0{o}:dX o=m↔(∀d∈o,fP d.1=m/\fG d.2=m)/\AH o/\o.Pairwise (λj k=>ld j.1 k.1=v)/\c o<=6:=by
 constructor
 .intro b;have t:=ae3 b;simp only[dX,cC,bA]at b;have h:=f'.1 b.1;refine⟨λd n=>?_,t,?_,b.2⟩
  .obtain⟨e,a,rfl⟩:=hq n;have:=h e a;exact PK
  rw[pd];intro e r a g i;have:=h r g;exact PK
 rintro⟨s,u,w,q⟩;simp only[dX,cC,bA];refine⟨f'.2 λe a=>?_,q⟩;have l:=s _ (xc a);rw[pr a]at l;simp only[iW,cC,jG,gZ];grind[List.pairwise_iff_getElem,pr]
end R1
def bk.le{s:ag P}{t}{args}{oT:ι->y}(u:bk s t args l res aO){e:ι->n Prop}(x:∀a,kq (res a) (oT a)=f (e a))(z:∀a,U (e a)):bk s t args l oT aO:=
 ⟨u.1,λB A o j w g i=>u.2 B A o j w g λa h C q k b d r=>i a h C q k (pz (x a) (z a) b) d r⟩
def bk.R{o:ag P}{q}{args}{res}{aO}(r:bk (ι:=ι) o q args l (λ_=>res) (λ_=>aO)):Y o q args l res aO:=
 ⟨r.1,λt A j h s d g=>r.2 t A j h s d λ_ e u k i a b n=>g e u k i a b n⟩
namespace R1
variable {q:ag T}
abbrev uu(e:c0 α)(d:n α):Type:={a:Nat->n O // ∀b,b<c d->a b=e.fn d b}
structure dL(b:cj):Prop where
 a2:c b.1<=4000000
 bu:∀a2∈b.1,c a2.2<=4000000
 a7:c b.2.1<=4000000
 bx:kx b
 aP:c b.2.2<=4000000
def Wh(b)(d)(h:dL b)(l:d.1=1):
  bk (ι:={e:Nat->n O // ∀j,j<c (b.1.filter λi=>!(i.1==d.2.1))->e j=a2.fn (b.1.filter λi=>!(i.1==d.2.1)) j}) q 35 [bV b,eo d] []
   (λ_=>.p (.agg [dD 0 (c b.1) (c (b.1.filter λi=>!(i.1==d.2.1))),dD 1 (c b.2.1) (c b.2.1),.c (hU b.2.2)])) (λe=>[.q 105 2 (c b.1) e.1,.q 129 2 (c b.2.1) (bi.fn b.2.1)]):=by refine bk.bB ba func35 rfl rfl rfl λo=>?_;refine aZ a C (g.aC (pq b h.a2 h.bu h.a7 h.bx h.aP) [] a (aZ a C (g.aC (UL d l) [] a (aZ a C (g.cU (UR b d h.a2) a a a a E a ?_)))));rintro⟨e,k⟩;refine aZ a C (g.bh ⟨e,k⟩ [3,4] ?_ ft);simp
def Wg(b)(d)(k:dL b)(n:d.1=1):Y q 35 [bV b,eo d] [] (bV (b.1.filter λa=>!(a.1==d.2.1),b.2.1,b.2.2)) []:=by
 have l:c (b.1.filter λa=>!(a.1==d.2.1))<=c b.1:=kI _ _;have e:=Wh (q:=q) b d k n;have g:=bk.bQ (aO:=λV:uu a2 (b.1.filter λa=>!(a.1==d.2.1))=>[.q 105 2 (c b.1) V.1]) (W:=129) (h:=2) (j:=λ_=>c b.2.1) (V:=λ_=>bi.fn b.2.1) e bm (λ_=>?_) bm (λ_=>g0 _);have i:=bk.bQ (aO:=λ_=>[]) (W:=105) (h:=2) (j:=λ_=>c b.1) (V:=λV:uu a2 (b.1.filter λa=>!(a.1==d.2.1))=>V.1) g bm (λ_=>?_) bm (λ_=>bE _);refine(i.le (oT:=λ_=>bV (b.1.filter λa=>!(a.1==d.2.1),b.2.1,b.2.2)) bm (λV=>?_)).R
 .simp only[U.Y,U,a_,a'];exact⟨V.2,bt.same,bt.same⟩
 .simpa using l
 simp
def Wr(b)(d)(e:dL b)(j:d.1≠1)(h:d.1≠2)(k:d.1≠3)(i:d.1≠4):
  bk (ι:=Unit) q 35 [bV b,eo d] [] (λ_=>.p (.agg [dD 0 (c b.1) (c b.1),dD 1 (c b.2.1) (c b.2.1),.c (hU b.2.2)])) (λ_=>[.q 105 2 (c b.1) (a2.fn b.1),.q 129 2 (c b.2.1) (bi.fn b.2.1)]):=by refine bk.bB ba func35 rfl rfl rfl λl=>?_;refine aZ a C (g.aC (pq b e.a2 e.bu e.a7 e.bx e.aP) [] a (aZ a C (g.aC (UN d j h k i) [] a (aZ a C (g.cU (WU (mV b d) a (.ptr 5 0)).tocF a a a a E a ?_)))));intro _;refine aZ a C (g.bh () [3,4] ?_ ft);simp
def Wk(b)(d:dO)(e:dL b)(h:d.1=2)(i:d.2.1<0∨d.2.1>c b.2.2):
  bk (ι:=Unit) q 35 [bV b,eo d] [] (λ_=>.p (.agg [dD 0 (c b.1) (c b.1),dD 1 (c b.2.1) (c b.2.1),.c (hU b.2.2)])) (λ_=>[.q 105 2 (c b.1) (a2.fn b.1),.q 129 2 (c b.2.1) (bi.fn b.2.1)]):=by refine bk.bB ba func35 rfl rfl rfl λj=>?_;refine aZ a C (g.aC (pq b e.a2 e.bu e.a7 e.bx e.aP) [] a (aZ a C (g.aC (IX d h) [] a (aZ a C (g.cU (T_ b d i).tocF a a a a E a ?_)))));intro _;refine aZ a C (g.bh () [3,4] ?_ ft);simp
def CJ{b}{d}(a:bk (ι:=Unit) q 35 [bV b,eo d] [] (λ_=>.p (.agg [dD 0 (c b.1) (c b.1),dD 1 (c b.2.1) (c b.2.1),.c (hU b.2.2)])) (λ_=>[.q 105 2 (c b.1) (a2.fn b.1),.q 129 2 (c b.2.1) (bi.fn b.2.1)])):Y q 35 [bV b,eo d] [] (bV b) []:=by
 have e:=bk.bQ (aO:=λ_:Unit=>[.q 105 2 (c b.1) (a2.fn b.1)]) (W:=129) (h:=2) (j:=λ_=>c b.2.1) (V:=λ_=>bi.fn b.2.1) a bm (λ_=>?_) bm (λ_=>g0 _);have g:=bk.bQ (aO:=λ_:Unit=>[]) (W:=105) (h:=2) (j:=λ_=>c b.1) (V:=λ_=>a2.fn b.1) e bm (λ_=>?_) bm (λ_=>bE _);refine(g.le (oT:=λ_=>bV b) bm (λV=>?_)).R
 .simp only[U.Y,U,a_,a'];exact⟨bt.same,bt.same,bt.same⟩
 .simp
 simp
def Wj(b)(h:dO)(d:dL b)(l:h.1=2)(i:Nat)(n:h.2.1=i)(o:i<=c b.2.2):
  bk (ι:=uu bi (b.2.1.filter λj=>!jr i b.2.2 j)) q 35 [bV b,eo h] []
   (λ_=>.p (.agg [dD 0 (c b.1) (c b.1),dD 1 (c b.2.1) (c (b.2.1.filter λj=>!jr i b.2.2 j)),.c (.C v 2 h.2.1.toNat (a1.fn b.2.2))])) (λe=>[.q 105 2 (c b.1) (a2.fn b.1),.q 129 2 (c b.2.1) e.1]):=by refine bk.bB ba func35 rfl rfl rfl λr=>?_;refine aZ a C (g.aC (pq b d.a2 d.bu d.a7 d.bx d.aP) [] a (aZ a C (g.aC (IX h l) [] a (aZ a C (g.cU (T' b h i n o d.a7 d.aP) a a a a E a ?_)))));rintro⟨e,k⟩;refine aZ a C (g.bh ⟨e,k⟩ [3,4] ?_ ft);simp
def Wi(b)(d:dO)(u:dL b)(o:d.1=2)(j:Nat)(w:d.2.1=j)(r:j<=c b.2.2):Y q 35 [bV b,eo d] [] (bV (b.1,b.2.1.filter λa=>!jr j b.2.2 a,b.2.2.take j)) []:=by
 have l:c (b.2.1.filter λa=>!jr j b.2.2 a)<=c b.2.1:=kI _ _;have e:=Wj (q:=q) b d u o j w r;have g:=bk.bQ (aO:=λ_:uu bi (b.2.1.filter λa=>!jr j b.2.2 a)=>[.q 105 2 (c b.1) (a2.fn b.1)]) (W:=129) (h:=2) (j:=λ_=>c b.2.1) (V:=λV=>V.1) e bm (λ_=>?_) bm (λ_=>g0 _);have i:=bk.bQ (aO:=λ_:uu bi (b.2.1.filter λa=>!jr j b.2.2 a)=>[]) (W:=105) (h:=2) (j:=λ_=>c b.1) (V:=λ_=>a2.fn b.1) g bm (λ_=>?_) bm (λ_=>bE _);refine(i.le (oT:=λ_=>bV (b.1,b.2.1.filter λa=>!jr j b.2.2 a,b.2.2.take j)) bm (λV=>?_)).R
 .have n:d.2.1.toNat=c (b.2.2.take j):=N;simp only[U.Y,U,a_,a'];refine⟨bt.same,V.2,n,λt s=>?_⟩;have k:t<j:=N;simp[c0.fn,gv,al,iq,k]
 .simp
 simpa using l
end R1
def dJ.ca:dJ->Nat
 |.nil=>0
 |.aw a _ _ b=>a.ca+b.ca+1
namespace R1
variable {q:ag T}
def UZ(o)(j):Y q 213 [aw (eK o),R j] [] (R (o.find j)) []:=by
 refine Y.K func213 rfl λs=>?_;refine aZ a C (g.loop (λd:dJ=>d.find j=o.find j) (λd=>[(0,aw (eK d)),(1,R j)]) (λ_=>[]) (λd=>d.ca) o a (.cons a (eH a E)) a ?_);intro d b;cases d with
 |nil=>
  refine aZ a C (g.aN (rY a underlying267 a a a) a a ?_);refine a6 [-7,-15] a E (g.bt a a ?_);refine aZ a C (g.aN (rY a underlying267 a a a) a a ?_);refine aZ a C (g.ar a ?_);exact bJ
 |aw h e k i=>
  have r:(dJ.aw h e k i).find j=if j=e then k else if j<e then h.find j else i.find j:=rfl;rw[r]at b;refine aZ a C (g.aN (tI a underlying267 a a a) a a ?_);by_cases n:j=e
  .subst n;rw[br a]at b;refine a6 [7,-15] a E (g.bt a a ?_);refine aZ a C (g.aN (tI a underlying267 a a a) a a ?_);refine aZ a C (g.ar a ?_);exact bw
  rw[bl n]at b;by_cases l:j<e
  .rw[br l]at b;cases h<;>exact a6 [7,15,22] rfl bw ⟨_,b,by simp only[dJ.ca];omega,.cons rfl (eH rfl E),rfl⟩
  rw[bl l]at b;cases i<;>exact a6 [7,15,-22] rfl bw ⟨_,b,by simp only[dJ.ca];omega,.cons rfl (eH rfl E),rfl⟩
end R1
namespace R1
section
variable {q:ag T}
def I7(b)(d)(e:dL b)(j:d.1=4)(h:Nat->n O)(i:Y q 124 [aD 6 0,iv (l4 d)] (oW b d (a1.fn b.2.2)) (.ae []) (oW b d h)):
  bk (ι:=Unit) q 35 [bV b,eo d] [] (λ_=>.p (.agg [dD 0 (c b.1) (c b.1),dD 1 (c b.2.1) (c b.2.1),dD 2 (c b.2.2) (c b.2.2)])) (λ_=>[.q 105 2 (c b.1) (a2.fn b.1),.q 129 2 (c b.2.1) (bi.fn b.2.1),.q 109 2 (c b.2.2) h]):=by refine bk.bB ba func35 rfl rfl rfl λk=>?_;refine aZ a C (g.aC (Jr b e.a2 e.bu e.a7 e.bx e.aP) [] a (aZ a C (g.aC (UM d j) [] a (aZ a C (g.cU i.tocF a a a a E a ?_)))));intro _;refine aZ a C (g.bh () [3,4,5] ?_ ft);simp
def I8(b)(d)(V:Nat->n O)(e)(g:c e=c b.2.2)(o:bt (c b.2.2) V (a1.fn e))(i:bk (ι:=Unit) q 35 [bV b,eo d] [] (λ_=>.p (.agg [dD 0 (c b.1) (c b.1),dD 1 (c b.2.1) (c b.2.1),dD 2 (c b.2.2) (c b.2.2)])) (λ_=>[.q 105 2 (c b.1) (a2.fn b.1),.q 129 2 (c b.2.1) (bi.fn b.2.1),.q 109 2 (c b.2.2) V])):
  Y q 35 [bV b,eo d] [] (bV (b.1,b.2.1,e)) []:=by
 have r:=bk.bQ (aO:=λ_:Unit=>[.q 105 2 (c b.1) (a2.fn b.1),.q 129 2 (c b.2.1) (bi.fn b.2.1)]) (W:=109) (h:=2) (j:=λ_=>c b.2.2) (V:=λ_=>V) i bm (λ_=>?_) bm (λ_=>g0 _);have k:=bk.bQ (aO:=λ_:Unit=>[.q 105 2 (c b.1) (a2.fn b.1)]) (W:=129) (h:=2) (j:=λ_=>c b.2.1) (V:=λ_=>bi.fn b.2.1) r bm (λ_=>?_) bm (λ_=>g0 _);have l:=bk.bQ (aO:=λ_:Unit=>[]) (W:=105) (h:=2) (j:=λ_=>c b.1) (V:=λ_=>a2.fn b.1) k bm (λ_=>?_) bm (λ_=>bE _);refine(l.le (oT:=λ_=>bV (b.1,b.2.1,e)) bm (λ_=>?_)).R
 .simp only[U.Y,U,a_,a'];refine⟨bt.same,bt.same,g.symm,?_⟩;intro s a;exact o s (by first|exact a|(rw[<-g];exact a))
 .simp
 .simp
 simp
def Wq(b)(a:dO)(d:dL b)(i:a.1=4)(e:0<=a.2.1)(g:a.2.1<c b.2.2)(h:a7 .i64 (3-lA b a)):
  Y q 35 [bV b,eo a] [] (bV (b.1,b.2.1,b.2.2.set (0+a.2.1.toNat) (3-lA b a,(b.2.2.getD (0+a.2.1.toNat) a1.I).2))) []:=
 I8 b a _ _ E (a1.cS b.2.2 (0+a.2.1.toNat) (3-lA b a,(b.2.2.getD (0+a.2.1.toNat) a1.I).2) (c b.2.2) (bE _)) (I7 b a d i _ (U2 b a e g h))
def Wp(b)(d:dO)(e:dL b)(h:d.1=4)(g:¬(0<=d.2.1/\d.2.1<c b.2.2)):Y q 35 [bV b,eo d] [] (bV b) []:=
 I8 b d _ b.2.2 a bt.same (I7 b d e h _ (U1 b d g))
abbrev Ep(a:cj)(i:dO)(e:Nat)(g b d:Nat)(h:n Z):n an:=tM a i [.q 105 2 (c a.1) (gf a.1 e (.slice (f ⟨g,0,p⟩) d b)),.q 129 2 (c a.2.1) (bi.fn a.2.1),.J (cm 153 2 (.row g b) d h)] (dD 3 (c a.1) (c a.1)) (dD 4 (c a.2.1) (c a.2.1)) (.c (hU a.2.2))
def gK(a:n cW)(b:Nat)(d:bB):n cW:=a.set b ((a.getD b (0,[])).1,d)
def JL{ah}{o}{d}(k:ek 2 (c ah) (bH.fn ah) d)(e:z<c ah)(j:nb A [.c (.T o)]):ek 2 (c ah) (bH.fn (gK ah z o)) (d.take (z*2+1)++A++d.drop (z*2+1+c A)):=by
 refine ek.fl k z 1 e j E (λq n h=>?_) a λg l b=>?_
 .simp[c0.fn,gv,gK,al,rv,qf h]
 have i:bH.fn (gK ah z o) z=[.int .i64 (ah.getD z (0,[])).1,.T o]:=by simp[c0.fn,gv,gK,al,rv,e];rfl
 rw[i]at b;rcases g with _|_|g
 .simp at b;subst b;exact .inr ⟨by omega,a⟩
 .grind
 simp at b
def Ud(b)(i:dO)(V:c b.1<=4000000)(d r e l:Nat)(ah)(Q:(b.1.getD d (0,[])).2=ah)(T:d<c b.1)(K:(b.1.getD d (0,[])).1=i.2.1)(M:∀w,w<c b.1->w≠d->(b.1.getD w (0,[])).1≠i.2.1)(O:i.2.2.1=l)(S:l<c ah)(W:c ah<=4000000)(B)(J:ek 2 (c ah) (bH.fn ah) B):
  bk (ι:={y:n Z // ek 2 (c ah) (bH.fn (gK ah l i.2.2.2)) y}) q 123 [aD 6 0,iv (l4 i)] (Ep b i d r e (c ah) B) (λ_=>.ae []) (λy=>Ep b i d r e (c ah) y.1):=by
 refine bk.bR func123 rfl rfl rfl (g.aT ?_);refine aZ a C (g.aE 7 (λj:Nat×n Z=>j.1<=c b.1/\(j.1<=d->j.2=B)/\(d<j.1->ek 2 (c ah) (bH.fn (gK ah l i.2.2.2)) j.2)) (λj=>[(0,aD 6 0),(1,iv (l4 i)),(8,.p (.R (dD 3 (c b.1) (c b.1)))),(9,R (c b.1)),(10,R j.1)]) (λj=>Ep b i d r e (c ah) j.2) (λj=>c b.1-j.1) (0,B) a E a E a ⟨by omega,λ_=>rfl,λF=>by omega⟩ ?_);rintro⟨h,k⟩ ⟨t,D,z⟩;simp only at t D z;have I:0+(h:Int).toNat=h:=x;by_cases F:h<c b.1
 .by_cases o:h=d
  .subst o;obtain rfl:=D (bE _);refine gu [11] 12 a ON (g.aN (a0.e9 ba (aj:=.agg [.c (.int .i64 i.2.1),.c (.val (.slice (f ⟨r,0,p⟩) (c ah) e))]) a a a a a ?_ ?_) a a ?_)
   .show f (E1.agg [.c (.int .i64 (b.1.getD (0+(h:Int).toNat) (0,[])).1),.c (nC b.1 h (.slice (f ⟨r,0,p⟩) (c ah) e) (0+(h:Int).toNat))])=_;rw[I,K,nC,br a]
   .show 0+(h:Int).toNat<_;omega
   refine a6 [19,24,31] a ?_ ?_
   .simp only[U,a7,bA,fT,a',a_];exact fu
   have Y:=J.len;have u:0+i.2.2.1.toNat*2+1=l*2+1:=x;refine g.eQ ba 5 a a a a a a a ?_ a a λA s=>?_
   .show 0+i.2.2.1.toNat*2+1+1<=c k;omega
   have X:=JL J S s;refine aZ a FZ (g.ax (h+1,k.take (l*2+1)++A++k.drop (l*2+1+c A)) a E ?_ ?_ ?_)
   .simp only[U.Y,U,bt.same,a_,a'];show cm 153 2 _ _ (List.take (0+i.2.2.1.toNat*2+1) k++A++List.drop (0+i.2.2.1.toNat*2+1+c A) k)=_;rw[u]
   .grind
   grind
  have N:=M h F o;refine gu [11] 12 a ON (g.aN (a0.e9 ba (aj:=.agg [.c (.int .i64 (b.1.getD h (0,[])).1),.c (.C v 2 (b.1.getD h (0,[])).2.length (bH.fn (b.1.getD h (0,[])).2))]) a a a a a ?_ ?_) a a ?_)
  .show f (E1.agg [.c (.int .i64 (b.1.getD (0+(h:Int).toNat) (0,[])).1),.c (nC b.1 d (.slice (f ⟨r,0,p⟩) (c ah) e) (0+(h:Int).toNat))])=_;rw[I,nC,bl o]
  .show 0+(h:Int).toNat<_;omega
  refine a6 [-19,-24,-31] a ?_ (g.ax (h+1,k) a ?_ ?_ ?_ ?_)
  .simp only[U,a7,eM,a',a_];exact⟨by omega,N⟩
  .simp
  .simp
  .grind
  grind
 obtain rfl:h=c b.1:=x;refine a6 [-11] a E (g.aB ?_);exact aZ a C ⟨⟨k,z T⟩,.inr a,a,a,_,_,_,a,a,a,C⟩
structure sr(b:cj)(d:dO)(i0 z:Nat):Prop where
 a_:i0<c b.1
 df:(b.1.getD i0 (0,[])).1=d.2.1
 b6:∀u,u<c b.1->u≠i0->(b.1.getD u (0,[])).1≠d.2.1
 bY:d.2.2.1=z
 gw:z<(b.1.getD i0 (0,[])).2.length
def LS(ah)(z)(o):c (gK ah z o)=c ah:=by simp[gK]
def vm{a:cj}{i0}(b:i0<c a.1):a.1.getD i0 (0,[])∈a.1:=N
set_option maxRecDepth 20000 in
def Wm(b)(d)(i:dL b)(s:d.1=3)(i0 z)(h:sr b d i0 z):
  bk (ι:={j:fl×n Z // ek 2 (b.1.getD i0 (0,[])).2.length (bH.fn (gK (b.1.getD i0 (0,[])).2 z d.2.2.2)) j.2}) q 35 [bV b,eo d] []
   (λ_=>.p (.agg [dD 0 (c b.1) (c b.1),dD 1 (c b.2.1) (c b.2.1),.c (hU b.2.2)]))
   (λj=>[.q 105 2 (c b.1) (gf b.1 i0 (cY j.1.1 (b.1.getD i0 (0,[])).2.length)),.q 129 2 (c b.2.1) (bi.fn b.2.1),.J (cm 153 2 j.1.1 (b.1.getD i0 (0,[])).2.length j.1.2)]):=by have t:=h.gw;have r:=i.bu _ (vm h.a_);refine bk.bB ba func35 rfl rfl rfl λB=>?_;refine aZ a C (g.a8 (XU b i0 h.a_ x i.a2 i.bu i.a7 i.bx i.aP) [] a bm ?_);rintro⟨⟨l,w⟩,A⟩;refine g.fE (cm.len (d:=5) a) λo=>?_;obtain⟨k,e,rfl⟩:=o.2.2.1 x;refine aZ a C (g.aC (IY d s) [] a (aZ a C (g.cU (Ud b d i.a2 i0 k e z _ a h.a_ h.df h.b6 h.bY t r w A) a a a a E a ?_)));rintro⟨y,u⟩;refine aZ a C (g.bh ⟨(.row k e,y),u⟩ [3,4,5] ?_ ft);simp
abbrev g1(b:cj)(d:dO)(a e:Nat):cj:=(b.1.set a ((b.1.getD a (0,[])).1,gK (b.1.getD a (0,[])).2 e d.2.2.2),b.2.1,b.2.2)
def Uw{o}{args}(b)(d)(i0 z)(x:i0<c b.1)(s:bk (ι:={g:fl×n Z // ek 2 (b.1.getD i0 (0,[])).2.length (bH.fn (gK (b.1.getD i0 (0,[])).2 z d.2.2.2)) g.2}) q o args []
   (λ_=>.p (.agg [dD 0 (c b.1) (c b.1),dD 1 (c b.2.1) (c b.2.1),.c (hU b.2.2)]))
   (λg=>[.q 105 2 (c b.1) (gf b.1 i0 (cY g.1.1 (b.1.getD i0 (0,[])).2.length)),.q 129 2 (c b.2.1) (bi.fn b.2.1),.J (cm 153 2 g.1.1 (b.1.getD i0 (0,[])).2.length g.1.2)])):
  Y q o args [] (bV (g1 b d i0 z)) []:=by
 generalize e:b.1.getD i0 (0,[])=i at *;have A:∀k,k≠i0->a2.fn (g1 b d i0 z).1 k=a2.fn b.1 k:=λk l=>by simp[c0.fn,gv,al,rv,qf l]
 have C:a2.fn (g1 b d i0 z).1 i0=[.int .i64 i.1,.C v 2 (c i.2) (bH.fn (gK i.2 z d.2.2.2))]:=by have:(g1 b d i0 z).1.getD i0 a2.I=(i.1,gK i.2 z d.2.2.2):=N;show a2.a9 ((g1 b d i0 z).1.getD i0 a2.I)=_;rw[this];show[O.int .i64 i.1,O.C v 2 (c (gK i.2 z d.2.2.2)) (bH.fn (gK i.2 z d.2.2.2))]=_;rw[LS]
 have y:=bk.fB (aO:=λg:{g:fl×n Z // ek 2 (c i.2) (bH.fn (gK i.2 z d.2.2.2)) g.2}=>[.q 105 2 (c b.1) (gf b.1 i0 (cY g.1.1 (c i.2))),.q 129 2 (c b.2.1) (bi.fn b.2.1)]) (fb:=λ_=>[.q 105 2 (c b.1) (a2.fn (g1 b d i0 z).1),.q 129 2 (c b.2.1) (bi.fn b.2.1)]) (W:=153) (h:=2) (j:=c i.2) (bP:=λg=>g.1.1) (ah:=λg=>g.1.2) s (λg=>g.2) 0 bm bm bm bm (λ_=>g0 _)
  (λg k l=>by exact bJ)
  (λg k l r B I=>by
   by_cases t:k=i0
   .subst t;rw[C]at I;have:gf b.1 k (cY g.1.1 (c i.2)) k=[.int .i64 i.1,.val (cY g.1.1 (c i.2))]:=Oa;rw[this];rcases r with _|_|r
    .simp at I;subst I;exact⟨_,a,.inl a⟩
    .exact Ru
    exact bJ
   .rw[A k t]at I;have:gf b.1 i0 (cY g.1.1 (c i.2)) k=a2.fn b.1 k:=Ff
    rw[this];exact⟨B,I,.inl a⟩)
 have u:=bk.bQ (aO:=λ_=>[.q 105 2 (c b.1) (a2.fn (g1 b d i0 z).1)]) (W:=129) (h:=2) (j:=λ_=>c b.2.1) (V:=λ_=>bi.fn b.2.1) y bm (λ_=>?_) bm (λ_=>g0 _);have w:=bk.bQ (aO:=λ_=>[]) (W:=105) (h:=2) (j:=λ_=>c b.1) (V:=λ_=>a2.fn (g1 b d i0 z).1) u bm (λ_=>?_) bm (λ_=>bE _);refine(w.le (oT:=λ_=>bV (g1 b d i0 z)) bm (λ_=>?_)).R
 .exact QI
 .simp
 simp
set_option maxRecDepth 20000 in
def Wl(b)(d)(e:dL b)(g:d.1=3)(i0 z)(a:sr b d i0 z):Y q 35 [bV b,eo d] [] (bV (g1 b d i0 z)) []:=
 Uw b d i0 z a.a_ (Wm b d e g i0 z a)
def p4(d:cj)(b:dO):Prop:=∀a,a<c d.1->¬((d.1.getD a (0,[])).1=b.2.1/\0<=b.2.2.1/\b.2.2.1<(d.1.getD a (0,[])).2.length)
def Ue(b)(d)(j:dL b)(s:p4 b d):Y q 123 [aD 5 0,iv (l4 d)] (mV b d) (.ae []) (mV b d):=by
 have y:=j.a2;refine bk.toY (bk.bR (ι:=Unit) (res:=λ_=>.ae []) (ao:=λ_=>mV b d) func123 rfl rfl rfl (g.aT ?_));refine aZ a C (g.aE 6 (λe=>e<=c b.1) (λe:Nat=>[(0,aD 5 0),(1,iv (l4 d)),(8,.p (.R (dD 3 (c b.1) (c b.1)))),(9,R (c b.1)),(10,R e)]) (λ_=>mV b d) (λe=>c b.1-e) 0 a E a E a x ?_);intro e n;by_cases k:e<c b.1
 .have r:=s e k;have t:=j.bu _ (vm k);have o:0+(e:Int).toNat=e:=x;have i:b.1.getD (0+(e:Int).toNat) a2.I=b.1.getD e (0,[]):=by rw[o];rfl
  generalize b.1.getD e (0,[])=l at *;by_cases w:l.1=d.2.1
  .by_cases u:0<=d.2.2.1
   .have h:¬d.2.2.1<c l.2:=λh=>r ⟨w,u,h⟩;refine a6 [11,19,24,-31] a Ph (g.ax (e+1) a E E sk ?_);omega
   refine a6 [11,19,-24,-31] a Ph (g.ax (e+1) a E E sk ?_);omega
  refine a6 [11,-19,-24,-31] a ?_ (g.ax (e+1) a ?_ ?_ ?_ ?_)
  .simp only[U,a7,i,eM,bA,dv,a',a_];and_intros<;>first|exact w|omega
  .simp
  .simp
  .exact sk
  omega
 obtain rfl:e=c b.1:=x;refine a6 [-11] a E (g.aB ?_);exact Rk
def Wo(b)(d)(e:dL b)(i:d.1=3)(h:p4 b d):
  bk (ι:=Unit) q 35 [bV b,eo d] [] (λ_=>.p (.agg [dD 0 (c b.1) (c b.1),dD 1 (c b.2.1) (c b.2.1),.c (hU b.2.2)])) (λ_=>[.q 105 2 (c b.1) (a2.fn b.1),.q 129 2 (c b.2.1) (bi.fn b.2.1)]):=by refine bk.bB ba func35 rfl rfl rfl λj=>?_;refine aZ a C (g.aC (pq b e.a2 e.bu e.a7 e.bx e.aP) [] a (aZ a C (g.aC (IY d i) [] a (aZ a C (g.cU (Ue b d e h).tocF a a a a E a ?_)))));intro _;refine aZ a C (g.bh () [3,4] ?_ ft);simp
def Wn(b)(d)(a:dL b)(g:d.1=3)(e:p4 b d):Y q 35 [bV b,eo d] [] (bV b) []:=CJ (Wo b d a g e)
end
section
open Go.Sort (pdq bitsLen ltInt Below)
variable {q:ag T}
def j0(a:n Int):n Int:=a.mergeSort λb d=>decide (b<=d)
def qY(d):c (j0 d)=c d:=List.length_mergeSort _
def adi(d):pdq ltInt d.toArray 0 (c d) (bitsLen (c d)) m m=(j0 d).toArray:=by have a:=Go.Sort.sortInt d;unfold Go.Sort.sort at a;rw[List.size_toArray]at a;exact Array.ext' bJ
theorem TF(d):s5 d.toArray=aC.fn d:=by funext u;simp only[s5,c0.fn,gv,aC,al];simp
abbrev jg(b:Nat)(a:n Int):an:=.q 3 1 b (aC.fn a)
def CL(d)(b:c d<=4000000):Y q 169 [dM (c d)] [jg (c d) d] (.ae []) [jg (c d) (j0 d)]:=by
 refine Y.K func169 rfl λe=>?_;refine cr a bJ (g.aC (I6 (c d) b) [] a (cr a C ?_));have i:=sR (k:=c d) (h:=22) N;have key:Y q 206 [dM (c d),R 0,R (c d),R (bitsLen (c d))] [jg (c d) d] (.ae []) [jg (c d) (j0 d)]:=by have:=Xe (q:=q) (c d) b (c d) d.toArray 0 (c d) (bitsLen (c d)) x E x (bE _) x (.inl a) (k:=0) a a a (adi d).symm;grind[TF]
 exact g.aC key [0] a (cr a C sl)
def fy(b:n Int):Nat->n Int
 |0=>[]
 |a+1=>if a≠0/\b.getD a 0=b.getD (a-1) 0 then fy b a else fy b a++[b.getD a 0]
def hL(a:n Int):n Int:=fy a (c a)
def xk(d):∀a,c (fy d a)<=a
 |0=>bE _
 |a+1=>by have:=xk d a;simp[fy];grind
def uM{d}:∀{b:Nat},b<=c d->(∀a,1<=a->a<b->d.getD a 0≠d.getD (a-1) 0)->fy d b=d.take b
 |0,_,_=>by simp[fy]
 |b+1,h,g=>by rw[fy,bl,uM x λa e i=>g a e x,ig x 0];grind
structure RZ(d:n Int)(tl:Nat)(rT:Nat)(nR:n Int):Prop where
 jb:1<=rT
 fI:tl+rT<=c d
 len:c nR=c d
 lt:c (fy d (tl+rT))<tl+rT
 done:nR.take (c (fy d (tl+rT)))=fy d (tl+rT)
 hO:∀e,tl+rT<=e+1->nR.getD e 0=d.getD e 0
abbrev AB(d:n Int):Type:={a:Nat->n O // ∀b,b<c d->a b=aC.fn d b}
def IS(d)(Z:c d<=4000000):bk (ι:=AB (hL d)) q 170 [dM (c d)] [jg (c d) d] (λ_=>cz 0 (.C (c d) 1 0 (c (hL d)))) (λz=>[.q 3 1 (c d) z.1]):=by
 refine bk.cy func170 rfl rfl rfl λY=>?_;by_cases Q:c d<2
 .have o:hL d=d:=by unfold hL;rw[uM (bE _) λb _ _=>by omega,c_]
  refine bN [8] a bw (g.bL ⟨aC.fn d,λb _=>by rw[o]⟩ (g.aM [0] a ?_ g5));simp[o]
 refine bN [-8] a bw (g.cq (S2:=Unit) 0 a a (λ_=>hL d=d) (λ_=>[(0,dM (c d))]) (λ_=>[jg (c d) d]) 1 (λh:Nat=>1<=h/\h<=c d/\∀b,1<=b->b<h->d.getD b 0≠d.getD (b-1) 0) (λh=>[(0,dM (c d)),(3,R h)]) (λ_=>[jg (c d) d]) (λh=>c d-h) 1 a E a E a ⟨bE _,by omega,λb G Q=>by omega⟩ ?_ ?_)
 .rintro dw h ⟨V,bT,D⟩;by_cases ab:h<c d
  .have aa:((h:Int)-1).toNat=h-1:=x;have F:∀t,d.getD t aC.I=d.getD t 0:=λ_=>rfl;by_cases l:d.getD h 0=d.getD (h-1) 0
   .refine bN [13,25] a ?_ ?_
    .simp only[U,cV,c5,aa,F,l,a7,bA,fT,a',a_];exact fu
    have aV:=uM (d:=d) x D;have H:fy d (h+1)=d.take h:=by rw[fy,br ⟨by omega,l⟩,aV]
    refine g.cq (S2:=n Int) 2 a a (λr=>c r=c d/\r.take (c (hL d))=hL d) (λ_=>[(0,dM (c d)),(3,R (c (hL d)))]) (λr=>[jg (c d) r]) 1 (λe:Nat×n Int=>RZ d h e.1 e.2) (λe=>[(0,dM (c d)),(3,R (c (fy d (h+e.1)))),(4,cz 0 (.C (c d) 1 h (c d-h))),(5,R e.1)]) (λe=>[jg (c d) e.2]) (λe=>c d-e.1) (1,d) a bJ a E a ?_ ?_ ?_
    .exact⟨bE _,by omega,a,by grind,by grind,λ_ _=>rfl⟩
    .rintro T ⟨i,r⟩ ⟨g2,iK,jL,uY,j,s⟩;simp only at g2 iK jL uY j s;by_cases ad:h+i<c d
     .have J:((i:Int)-1).toNat=i-1:=x;have B:∀t,r.getD t aC.I=r.getD t 0:=λ_=>rfl;have A:r.getD (h+i) 0=d.getD (h+i) 0:=s _ x;have M:r.getD (h+(i-1)) 0=d.getD (h+(i-1)) 0:=s _ x;by_cases u:d.getD (h+i) 0=d.getD (h+(i-1)) 0
      .have K:fy d (h+(i+1))=fy d (h+i):=by rw[show h+(i+1)=h+i+1 by omega,fy,br ⟨by omega,by rw[u,show h+i-1=h+(i-1) by omega]⟩]
       refine bN [32,-44] a ?_ (g.ax (i+1,r) a ?_ ?_ ?_ ?_)
       .simp only[U,cV,c5,J,B,A,M,u,a7,bA,ip,fq,fT,a',a_];and_intros<;>first|trivial|omega
       .exact bJ
       .simp
       .exact⟨by grind,by grind,jL,by grind,by grind,λb k=>s b N⟩
       omega
      have K:fy d (h+(i+1))=fy d (h+i)++[d.getD (h+i) 0]:=by rw[show h+(i+1)=h+i+1 by omega,fy,bl];rintro⟨_,l⟩;exact u (by rw[l,show h+i-1=h+(i-1) by omega])
      refine bN [32,44] a ?_ (g.ax (i+1,r.set (c (fy d (h+i))) (d.getD (h+i) 0)) a ?_ ?_ ?_ ?_)
      .simp only[U,cV,c5,J,B,A,M,a7,bA,j',eM,iI,d',a',a_];and_intros<;>first|exact u|omega
      .exact bJ
      .have w:=aC.cS r (c (fy d (h+i))) (d.getD (h+i) 0) (c d) x;simp only[U.Y,U,cV,c5,B,A,a_,a'];exact w
      .refine⟨by grind,by grind,by grind,by grind,?_,λb k=>?_⟩
       .simp only;rw[K,dm,show ∀S:Int,[S].length=1 fromλ_=>rfl,xf,AZ,Gn N,j,io x];rfl
       simp only at k⊢;rw[al,j_ x,<-al];grind
      omega
     have X:h+i=c d:=x;have I:fy d (h+i)=hL d:=bJ;refine bN [-32] a bw (g.aB ?_);rw[I]at j;exact T r ⟨jL,j⟩ a (by simp[I]) a E
    rintro r ⟨O,y⟩;have W:c (hL d)<=c d:=xk d _;refine cr a bw (g.aN (a0.eY ba a a a a a a wM) a a ?_);refine aZ a bw (g.aX ⟨⟨nS (0+bU 0 (f (c (hL d):Int))) (0+bU 0 (f (c (hL d):Int))+(bU (c d) p-bU 0 (f (c (hL d):Int)))) ef.zero (aC.fn r),λb k=>?_⟩,bX.mk [0] a ?_ a a a g5⟩)
    .have w:r[b]?=(hL d)[b]?:=N;refine(NR wM).trans ?_;simp[c0.fn,gv,al,w]
    exact bJ
   refine bN [13,-25] a ?_ (g.ax (h+1) a ?_ ?_ ?_ ?_)
   .simp only[U,cV,c5,aa,F,a7,bA,eM,d',a',a_];and_intros<;>first|exact l|omega
   .simp
   .simp
   .grind
   omega
  obtain rfl:h=c d:=x;refine bN [-13] a E (g.aB ?_);exact dw () (by unfold hL;rw[uM (bE _) D,c_]) a E a E
 rintro⟨⟩ o;refine cr a C (g.bL ⟨aC.fn d,λb _=>by rw[o]⟩ (g.aM [0] a ?_ g5));simp[o]
end
section
variable {q:ag T}
def eb(a:n m8):n Int:=a.flatMap (·.2)
def fZ(a:eh):n Int:=hL (j0 (eb a.2))
def KV{d}(a:e<c d):eb (d.take (e+1))=eb (d.take e)++(d.getD e ([],[])).2:=by rw[ig a ([],[])];simp[eb]
def _root_.Go.AM.c0.ha(b:c0 α)(a i)(j)(e:j=c (a++i)):bt j (cf (c a) (b.fn a) (b.fn i)) (b.fn (a++i)):=by intro g d;simp only[cf,c0.fn,gv,al];grind
def XH(k)(z:c k.2<=4000000)(i:c (eb k.2)<=4000000)(t:∀b,b<=c k.2->c (eb (k.2.take b))<=4000000):
  bk (ι:=AB (fZ k)) q 140 [iO k] [] (λ_=>cz 0 (.C (c (eb k.2)) 1 0 (c (fZ k)))) (λd=>[.q 3 1 (c (eb k.2)) d.1]):=by
 refine bk.cy func140 rfl rfl rfl λy=>?_;refine bN [902] a C (g.fa 3 3 1 (aC.fn []) a ?_);refine cr a C ?_;refine g.aE 2 (λb=>b<=c k.2) (λb:Nat=>[(3,cz 1 (.C (c (eb (k.2.take b))) 1 0 (c (eb (k.2.take b))))),(7,cq.C k.2),(8,R (c k.2)),(9,R b)])
  (λb=>[.cells 129 [.c (.int .i64 k.1),.c (.C v 2 (c k.2) (cq.fn k.2))],jg (c (eb (k.2.take b))) (eb (k.2.take b))]) (λb=>c k.2-b) 0 a ?_ a ?_ a x ?_
 .simp[eb]
 .simp[bt,eb]
 intro b r;by_cases j:b<c k.2
 .have h:k.2.getD (b:Int).toNat cq.I=k.2.getD b ([],[]):=ds;have e:=KV j;have o:=t (b+1) j;rw[e,dm]at o;refine bN [10] a ?_ (g.ax (b+1) a ?_ ?_ ?_ ?_)
  .simp only[U,h,a7,show ef.bytes=8 from a,bA,a',a_];exact fu
  .simp only[U.Y,U,h,e,dm,a_,a'];and_intros<;>first|exact bt.same|rfl|omega
  .have u:=aC.ha (eb (k.2.take b)) (k.2.getD b ([],[])).2 _ a;simp_all
  .omega
  omega
 obtain rfl:b=c k.2:=x;rw[c_];refine bN [-10] a E (g.aB ?_);refine cr a C (g.aC (CL (eb k.2) i) [1] a (cr a C ?_));have l:=IS (q:=q) (j0 (eb k.2)) (by rw[qY];exact i);rw[qY]at l;refine g.a8 l [1] a bm ?_;rintro⟨d,n⟩;refine cr a C (g.bL ⟨d,n⟩ (g.aM [1] a ?_ (λw s=>absurd s E)));simp[fZ]
def KW(d)(e):c (eb (d.take e))<=c (eb d):=by
 have a:eb d=eb (d.take e)++eb (d.drop e):=by unfold eb;grind[List.take_append_drop]
 grind
def H8(d):c (hL d)<=c d:=xk d _
def XG(k)(e:c k.2<=4000000)(a:c (eb k.2)<=4000000):Y q 140 [iO k] [] (aC.C (fZ k)) []:=by
 have b:=XH (q:=q) k e a λg _=>fM (KW _ _) a;have d:=bk.bQ (aO:=λ_:AB (fZ k)=>[]) (W:=3) (h:=1) (j:=λ_=>c (eb k.2)) (V:=λV=>V.1) b bm (λ_=>?_) bm (λ_=>bE _);refine(d.le (oT:=λ_=>aC.C (fZ k)) bm (λV=>?_)).R
 .simp only[U.Y,U,a_,a'];exact V.2
 have:c (fZ k)<=c (eb k.2):=RD;exact bw
def Yg(b)(e)(d:d9 b=m)(o:3<=e)(h:e<=c b)(l:c b<=4000000):Y q 310 [b0 b,R e] [] (bh (pT b e)) []:=by
 refine Y.K func310 rfl λj=>?_;have k:=tn d (e-1) x;have n:=tn d (e-2) x;have s:=tn d (e-3) x;have i:((kN b ((e:Int)-1)).toNat:Int)=dj b (e-1):=ug;have I:((kN b ((e:Int)-2)).toNat:Int)=dj b (e-2):=ug;have r:((kN b ((e:Int)-3)).toNat:Int)=dj b (e-3):=ug;refine aZ a ?_ (g.ar a ?_)
 .simp only[U,a7,i,I,r];omega
 exact Ov
abbrev HN:bK:=eu eF c1 (λa b=>bh (pT a b.toNat)) λa b=>[d9 a=m,3<=b,b<=c a,c a<=4000000]
def aeQ:bM q 310 HN:=.bn λh b g=>by
 obtain⟨d,i,j,e⟩:=g;obtain⟨a,rfl⟩:∃a:Nat,b=a:=⟨b.toNat,by omega⟩
 exact Yg h a d x x e
def T6(o)(d)(e:d9 o=m)(t:d<=c o)(y:c o<=4000000):Y q 294 [b0 o,R d] [] (R (eG o d)) []:=by
 refine Y.K func294 rfl λu=>?_;have j:a9 q [(310,HN)]:=.cons aeQ .nil;refine b_ j a C (g.b_ (λb=>b<=5/\lR o d (5-b)=eG o d) (λb:Nat=>[(0,b0 o),(1,R d),(5,R (3+b))]) (λ_=>[]) (λb=>5-b) 0 a E a C ⟨by omega,a⟩ ?_);rintro b ⟨w,i⟩;by_cases s:b<5
 .obtain⟨h,bT⟩:∃h,5-b=h+1:=⟨4-b,by omega⟩
  have l:d+(7-h)=d+3+b:=x;rw[bT]at i;simp[lR,l]at i;by_cases k:c o<=d+3+b
  .rw[br k]at i;refine a8 j [7,15] a RQ (g.bS (bX.zero a ?_));exact bw
  rw[bl k]at i;have aj:((d:Int)+(3+(b:Int))).toNat=d+3+b:=x;cases r:pT o (d+3+b)with
  |true=>
   rw[r,br a]at i;refine a8 j [7,-15,22] a QM (g.bS (bX.zero a ?_));exact bw
  |false=>
   rw[r,bl E]at i;refine a8 j [7,-15,-22] a QM (g.b5 (b+1) a ?_ a C ⟨by omega,by grind⟩ x);exact bw
 have aj:eG o d=min (d+8) (c o):=by rw[<-i,show 5-b=0 by omega];rfl
 have n:a7 .i64 ((min (d+8) (c o):Nat):Int):=bJ;refine a8 j [-7] a bw (g.bt a a ?_);refine b_ j a bJ (g.aN (yR ((min (d+8) (c o):Nat):Int) a a a x n) a a ?_);refine b_ j a C (g.ar a ?_);simp[aj]
abbrev G':bK:=eu eF c1 (λa b=>R (eG a b.toNat)) λa b=>[d9 a=m,0<=b,b<=c a,c a<=4000000]
def ad3:bM q 294 G':=.bn λh b g=>by
 obtain⟨d,i,j,e⟩:=g;obtain⟨a,rfl⟩:∃a:Nat,b=a:=⟨b.toNat,by omega⟩
 exact T6 h a d x e
abbrev mC(b:bB):n Int:=(Tl b).map λa:Nat=>(a:Int)
def US(o)(y:d9 o=m)(D:c o<=4000000):Y q 253 [b0 o] [] (aC.C (mC o)) []:=by
 refine Y.K func253 rfl λB=>?_;have i:a9 q [(294,G')]:=.cons ad3 .nil;refine a8 i [903] a C (g.bM 3 3 1 a a ?_);refine b_ i a C (g.aE 1 (λd:Nat×n Int=>d.1<=c o/\c d.2<=d.1/\∃e,c o<=d.1+e/\mC o=d.2++(lh o e d.1).map λz:Nat=>(z:Int)) (λd=>[(0,b0 o),(3,.p (.R (.w 0 1 (c d.2) (aC.fn d.2)))),(4,R d.1)]) (λd=>[.w 3 1 (c d.2) (aC.fn d.2)]) (λd=>c o-d.1) (0,[]) a E a E a ⟨by simp,by simp,c o,by simp,by exact bJ⟩ ?_);rintro⟨h,b⟩ ⟨w,u,e,k,s⟩;simp only at w u k s;by_cases j:h<c o
 .obtain⟨e,rfl⟩:∃l,e=l+1:=⟨e-1,by omega⟩
  have x:=sY o h j;have t:=aC.a0 b (eG o h:Int);have r:c b+1=c (b++[(eG o h:Int)]):=E;refine a8 i [9] a ?_ (g.ax (eG o h,b++[(eG o h:Int)]) a ?_ ?_ ?_ ?_)
  .simp only[U,y,show ef.bytes=8 from a,bA,a',a_];exact fu
  .exact U.Y.2 ⟨a,U.Y.2 ⟨⟨r,t⟩,U.Y.2 ⟨a,C⟩⟩⟩
  .exact U.Y.2 ⟨⟨r,t⟩,C⟩
  .refine⟨x.2.1,by grind,e,by grind,?_⟩;rw[s];simp only[lh,br j];simp
  grind
 have A:mC o=b:=by
  have:lh o e h=[]:=by cases e<;>simp[lh,j]
  grind
 refine a8 i [-9] a bw (g.aB ?_);refine b_ i a C (g.ar a ?_);simp_all
abbrev Hg:bK:=da eF (λa=>aC.C (mC a)) λa=>[d9 a=m,c a<=4000000]
def aea:bM q 253 Hg:=.bd λb a=>US b a.1 a.2
def TC{d a}{b:α}(h:d.drop e=b::a)(g:α):e<c d/\d.getD e g=b/\d.drop (e+1)=a:=by grind[List.drop_eq_nil_of_le,List.drop_eq_getElem_cons]
def IH(o):∀a b,c (lh o a b)<=a
 |0,_=>bE _
 |a+1,b=>by
  simp[lh];split
  .have:=IH o a (eG o b);grind
  simp
def T0(o)(S:d9 o=m)(Q:c o<=4000000):Y q 197 [b0 o] [] (bR.C (cy o)) []:=by
 refine Y.K func197 rfl λW=>?_;have j:a9 q [(253,Hg)]:=.cons aea .nil;have V:c (mC o)<=c o:=by simp[mC,k8];exact IH o _ _
 refine a8 j [902] a C (g.bM 3 9 1 a a ?_);refine b_ j a ds (g.aE 1 (λd:Nat×Nat×n bB=>d.1<=c (mC o)/\d.2.1<=c o/\c d.2.2<=d.1/\∃h,c o<=d.2.1+h/\(mC o).drop d.1=((lh o h d.2.1).map λJ:Nat=>(J:Int))/\cy o=d.2.2++jX o h d.2.1) (λd=>[(0,b0 o),(3,.p (.R (.w 0 1 (c d.2.2) (bR.fn d.2.2)))),(4,R d.2.1),(5,aC.C (mC o)),(6,R d.1)]) (λd=>[.w 9 1 (c d.2.2) (bR.fn d.2.2)]) (λd=>c (mC o)-d.1) (0,0,[]) a E a E a ⟨by simp,by simp,by simp,c o,by simp,by exact bJ,by simp[cy]⟩ ?_);rintro⟨s,b,e⟩ ⟨l,I,F,h,r,x,w⟩;simp only at l I F r x w;by_cases k:s<c (mC o)
 .have B:lh o h b≠[]:=by grind[List.length_drop]
  obtain⟨h,rfl⟩:∃u,h=u+1:=by
   cases h with
   |zero=>exact bJ
   |succ h=>grind
  have i:b<c o:=by
   rcases d6 b (c o) with k|k
   .exact k
   exact absurd (by simp[lh,bl (show¬b<c o by omega)]) B
  simp[lh,br i,mr]at x;obtain⟨_,X,M⟩:=TC x 0;have K:=sY o b i;have t:(mC o).getD (s:Int).toNat aC.I=(eG o b:Int):=N;have y:mz o (f (b:Int)) (f (eG o b:Int))=(o.drop b).take (eG o b-b):=Oi;have D:=bR.a0 e ((o.drop b).take (eG o b-b));have A:c e+1=c (e++[(o.drop b).take (eG o b-b)]):=E;refine a8 j [13] a ?_ (g.ax (s+1,eG o b,e++[(o.drop b).take (eG o b-b)]) a ?_ ?_ ?_ ?_)
  .simp only[U,t,a7,ji,show te.bytes=16 from a,bA,a',a_];exact fu
  .simp only[U.Y,U,t,y,a',a_];and_intros<;>first|exact A|exact D|simp|omega
  .simp only[U.Y,U,t,y,a',a_];and_intros<;>first|exact A|exact D
  .refine⟨by grind,K.2.1,by grind,h,by grind,M,?_⟩;rw[w];simp only[jX,br i];simp
  grind
 have T:cy o=e:=by
  have z:lh o h b=[]:=by grind[List.map_eq_nil_iff]
  have i:¬b<c o:=by
   intro O;cases h with
   |zero=>omega
   |succ h=>simp only[lh,br O]at z;cases z
  rw[w];cases h<;>simp[jX,i]
 refine a8 j [-13] a ds (g.aB ?_);refine b_ j a C (g.ar a ?_);simp_all
abbrev xE:bK:=da eF (λa=>bR.C (cy a)) λa=>[d9 a=m,c a<=4000000]
def EM:bM q 197 xE:=.bd λb a=>T0 b a.1 a.2
def _root_.Go.AM.c0.e1(b:c0 α)(d)(k X):bt (c d+1+1) (cf (c d+1) (cf (c d) (b.fn d) λa=>[b.a9 k].getD a []) λa=>[b.a9 X].getD a []) (b.fn (d++[k,X])):=by
 have h:=b.a0 d k;have e:=b.a0 (d++[k]) X;rw[show(d++[k]).length=c d+1 by simp,show d++[k]++[X]=d++[k,X] by simp]at e;intro a i;rw[<-e a i];simp[cf];by_cases g:a<c d+1
 .rw[br g,br g];exact h a g
 grind
abbrev Tq(a:cW):y:=.p (.agg [.c (.int .i64 a.1),.c (.T a.2)])
def jw(d:cW)(a:n cW×Bool)(b:cW):n cW×Bool:=if a.2=m then(a.1++[b],m)else if d.1<b.1 then(a.1++[d,b],m)else(a.1++[b],v)
def ML(k):∀b(a:n cW),(b.foldl (jw k) (a,m))=(a++b,m)
 |[],a=>by simp
 |d::e,a=>by rw[kb,show jw k (a,m) d=(a++[d],m)from rfl,ML k e];simp
def MM(k):∀e(a:n cW),(if(e.foldl (jw k) (a,v)).2=m then(e.foldl (jw k) (a,v)).1 else(e.foldl (jw k) (a,v)).1++[k])=a++fF e k
 |[],a=>by simp[fF]
 |b::g,a=>by
  rw[kb];by_cases d:k.1<b.1
  .rw[show jw k (a,v) b=(a++[k,b],m) by simp[jw,d],ML];simp[fF,d]
  rw[show jw k (a,v) b=(a++[b],v) by simp[jw,d],MM k g];simp[fF,d]
theorem MN(k):∀b(a:n cW×Bool),(b.foldl (jw k) a).1.length<=c a.1+c b+1-(if a.2=m then 1 else 0)
 |[],a=>by grind
 |e::d,a=>by rw[kb];have:=MN k d (jw k a e);unfold jw at this⊢;grind
abbrev mu(d:cW)(b:n cW)(a:Nat):n cW×Bool:=(b.take a).foldl (jw d) ([],v)
def Sl{k}{d}(a:e<c d):mu k d (e+1)=jw k (mu k d e) (d.getD e (0,[])):=ih
def Gr(k)(d)(e):(mu k d e).1.length<=c d+1:=by grind[MN]
abbrev abG(d:n cW)(e:cW)(b:Nat)(a:n cW×Bool):bI:=[(0,bH.C d),(3,aD 0 0),(5,.p (.R (.w 1 2 (c a.1) (bH.fn a.1)))),(6,bh a.2),(7,R b)]
abbrev abF(b:cW)(a:n cW):n an:=[.cells 153 [.c (.int .i64 b.1),.c (.T b.2)],.w 153 2 (c a) (bH.fn a)]
def Xk(d)(k)(z:c d<=4000000):Y q 202 [bH.C d,Tq k] [] (bH.C (fF d k)) []:=by
 refine Y.K func202 rfl λy=>?_;refine bN [902] a C (g.bM 5 153 2 a a ?_);refine cr a C (g.aE 2 (λb=>b<=c d) (λb:Nat=>abG d k b (mu k d b)) (λb=>abF k (mu k d b).1) (λb=>c d-b) 0 a ?_ a ?_ a x ?_)
 .simp[mu]
 .simp[mu]
 intro b t;by_cases s:b<c d
 .have j:=Sl (k:=k) s;have i:=Gr k d b;have ae:d.getD (b:Int).toNat bH.I=d.getD b (0,[]):=N;generalize mu k d b=e at j i;obtain⟨e,n⟩:=e;simp only at i;have h:=bH.a0 e (d.getD b (0,[]));have o:=bH.e1 e k (d.getD b (0,[]));cases n with
  |true=>
   have r:mu k d (b+1)=(e++[d.getD b (0,[])],m):=j;have u:c e+1=c (e++[d.getD b (0,[])]):=E;refine bN [12] a ?_ (g.ax (b+1) a ?_ ?_ ?_ ?_)
   .simp only[U,ae,a7,show l1.bytes=24 from a,bA,a',a_];exact fu
   .exact OM
   .exact O6
   .grind
   omega
  |false=>
   by_cases l:k.1<(d.getD b (0,[])).1
   .have r:mu k d (b+1)=(e++[k,d.getD b (0,[])],m):=by rw[j];simp only[jw,br l];rfl
    have u:c e+1+1=c (e++[k,d.getD b (0,[])]):=E;refine bN [12,25] a ?_ (g.ax (b+1) a ?_ ?_ ?_ ?_)
    .simp only[U,ae,a7,show l1.bytes=24 from a,l,lI,bA,a',a_];exact fu
    .rw[r];simp[U.Y,U,ae,a',a_];and_intros<;>first|exact u|exact o|simp|rfl|omega
    .rw[r];simp[U.Y,U,ae,a',a_];and_intros<;>first|exact u|exact o|exactλ_ _=>rfl|rfl|omega
    .grind
    omega
   have r:mu k d (b+1)=(e++[d.getD b (0,[])],v):=by rw[j];simp only[jw,bl l];rfl
   have u:c e+1=c (e++[d.getD b (0,[])]):=E;refine bN [12,-25] a ?_ (g.ax (b+1) a ?_ ?_ ?_ ?_)
   .simp only[U,ae,a7,show l1.bytes=24 from a,bA,l,n_,qh,dv,a',a_];exact fu
   .exact OM
   .exact O6
   .grind
   omega
 obtain rfl:b=c d:=x;have I:=MM k d [];have i:=Gr k d (c d);refine bN [-12] a E (g.aB ?_);have w:mu k d (c d)=d.foldl (jw k) ([],v):=N;rw[w]at i⊢;generalize d.foldl (jw k) ([],v)=e at *;obtain⟨e,n⟩:=e;simp only[qe]at I i;cases n with
 |true=>
  exact Rl
 |false=>
  simp only[ka,dh]at I;have h:=bH.a0 e k;refine cr a ?_ (g.ar a ?_)
  .simp only[U,show l1.bytes=24 from a,a',a_];grind
  rw[<-I];simp only[U.Y,U,a',a_];and_intros<;>first|exact h|simp
abbrev HE:bK:=eu (e2 bH) sw (λa b=>bH.C (fF a b)) λa _=>[c a<=4000000]
def aeG:bM q 202 HE:=.bn λb d a=>Xk b d a
abbrev Tt(a:fw):y:=.p (.agg [.c (.int .i64 a.1),.c (.int .i64 a.2)])
def fj(d:fw)(a:n fw×Bool)(b:fw):n fw×Bool:=
 if a.2=m then(if b.1=d.1 then a else(a.1++[b],m))else if d.1<=b.1 then(if b.1=d.1 then(a.1++[d],m)else(a.1++[d,b],m))else(a.1++[b],v)
def zv(k):∀(e:n fw)a,(e.foldl (fj k) (a,m))=(a++e.filter λh=>!(h.1==k.1),m)
 |[],a=>by simp
 |d::g,a=>by
  rw[kb];by_cases b:d.1=k.1
  .rw[show fj k (a,m) d=(a,m) by simp[fj,b],zv k g];simp[b]
  rw[show fj k (a,m) d=(a++[d],m) by simp[fj,b],zv k g];simp[b]
def MP(k):∀e(a:n fw),(if(e.foldl (fj k) (a,v)).2=m then(e.foldl (fj k) (a,v)).1 else(e.foldl (fj k) (a,v)).1++[k])=a++eB e k
 |[],a=>by simp[eB]
 |b::h,a=>by
  rw[kb];by_cases g:k.1<=b.1
  .have r:¬b.1<k.1:=x;by_cases d:b.1=k.1
   .rw[show fj k (a,v) b=(a++[k],m) by simp[fj,d],zv];simp[eB,d]
   rw[show fj k (a,v) b=(a++[k,b],m) by simp[fj,g,d],zv];simp[eB,r,d]
  have r:b.1<k.1:=x;rw[show fj k (a,v) b=(a++[b],v) by simp[fj,g],MP k h];simp[eB,r]
theorem MQ(k):∀h(a:n fw×Bool),(h.foldl (fj k) a).1.length<=c a.1+c h+1-(if a.2=m then 1 else 0)
 |[],a=>by grind
 |b::j,a=>by
  rw[kb];have e:=MQ k j (fj k a b);obtain⟨a,i⟩:=a;simp[fp];cases i with
  |true=>
   by_cases d:b.1=k.1
   .rw[show fj k (a,m) b=(a,m) by simp[fj,d]]at e⊢;grind
   rw[show fj k (a,m) b=(a++[b],m) by simp[fj,d]]at e⊢;grind
  |false=>
   by_cases g:k.1<=b.1
   .by_cases d:b.1=k.1
    .rw[show fj k (a,v) b=(a++[k],m) by simp[fj,d]]at e⊢;grind
    rw[show fj k (a,v) b=(a++[k,b],m) by simp[fj,g,d]]at e⊢;grind
   rw[show fj k (a,v) b=(a++[b],v) by simp[fj,g]]at e⊢;grind
abbrev k'(d:fw)(b:n fw)(a:Nat):n fw×Bool:=(b.take a).foldl (fj d) ([],v)
def Sm{k}{d}(a:e<c d):k' k d (e+1)=fj k (k' k d e) (d.getD e (0,0)):=ih
def Gs(k)(d)(e):(k' k d e).1.length<=c d+1:=by grind[MQ]
abbrev abI(d:n fw)(e:fw)(b:Nat)(a:n fw×Bool):bI:=[(0,e3.C d),(3,aD 0 0),(5,.p (.R (.w 1 2 (c a.1) (e3.fn a.1)))),(6,bh a.2),(7,R b)]
abbrev abH(b:fw)(a:n fw):n an:=[.cells 253 [.c (.int .i64 b.1),.c (.int .i64 b.2)],.w 253 2 (c a) (e3.fn a)]
def Xl(d)(k:fw)(y:c d<=4000000):Y q 201 [e3.C d,Tt k] [] (e3.C (eB d k)) []:=by
 refine Y.K func201 rfl λw=>?_;refine bN [902] a C (g.bM 5 253 2 a a ?_);refine cr a C (g.aE 2 (λb=>b<=c d) (λb:Nat=>abI d k b (k' k d b)) (λb=>abH k (k' k d b).1) (λb=>c d-b) 0 a ?_ a ?_ a x ?_)
 .simp[k']
 .simp[k']
 intro b s;by_cases o:b<c d
 .have h:=Sm (k:=k) o;have i:=Gs k d b;have ae:d.getD (b:Int).toNat e3.I=d.getD b (0,0):=N;generalize k' k d b=e at h i;obtain⟨e,j⟩:=e;simp only at i;have u:=e3.a0 e (d.getD b (0,0));have l:=e3.a0 e k;have n:=e3.e1 e k (d.getD b (0,0));cases j with
  |true=>
   by_cases heq:(d.getD b (0,0)).1=k.1
   .have r:k' k d (b+1)=(e,m):=by rw[h];simp only[fj,dH,br heq]
    refine bN [12,-38] a Ow (g.ax (b+1) a F7 F7 N ?_);omega
   have r:k' k d (b+1)=(e++[d.getD b (0,0)],m):=by rw[h];simp only[fj,dH,bl heq]
   refine bN [12,38] a Ow (g.ax (b+1) a O3 PQ N ?_);omega
  |false=>
   by_cases aj:k.1<=(d.getD b (0,0)).1
   .by_cases heq:(d.getD b (0,0)).1=k.1
    .have r:k' k d (b+1)=(e++[k],m):=by rw[h];simp only[fj,br aj,br heq];rfl
     refine bN [12,25,-38] a Fz (g.ax (b+1) a ?_ ?_ ?_ ?_)
     .rw[r];simp only[U.Y,U,ae,a',a_];and_intros<;>first|exact u|exact l|simp|simp|rfl|omega|simp
     .rw[r];exact bJ
     .grind
     omega
    have r:k' k d (b+1)=(e++[k,d.getD b (0,0)],m):=by rw[h];simp only[fj,br aj,bl heq];rfl
    refine bN [12,25,38] a Fz (g.ax (b+1) a ?_ ?_ ?_ ?_)
    .rw[r];simp only[U.Y,U,ae,a',a_];and_intros<;>first|exact u|exact l|exact n|simp|rfl|omega|simp
    .rw[r];simp only[U.Y,U,ae,a',a_];and_intros<;>first|exact u|exact l|exact n|grind|rfl|omega|simp
    .grind
    omega
   have heq:¬(d.getD b (0,0)).1=k.1:=x;have r:k' k d (b+1)=(e++[d.getD b (0,0)],v):=by rw[h];simp only[fj,bl aj];rfl
   refine bN [12,-25,38] a Fz (g.ax (b+1) a O3 PQ N ?_);omega
 obtain rfl:b=c d:=x;have I:=MP k d [];have i:=Gs k d (c d);refine bN [-12] a E (g.aB ?_);have t:k' k d (c d)=d.foldl (fj k) ([],v):=N;rw[t]at i⊢;generalize d.foldl (fj k) ([],v)=e at *;obtain⟨e,j⟩:=e;simp only[qe]at I i;cases j with
 |true=>
  exact Rl
 |false=>
  simp only[ka,dh]at I;have u:=e3.a0 e k;refine cr a ?_ (g.ar a ?_)
  .simp only[U,show oF.bytes=16 from a,a',a_];grind
  rw[<-I];simp only[U.Y,U,a',a_];and_intros<;>first|exact u|simp
abbrev HF:bK:=eu (e2 e3) p' (λa b=>e3.C (eB a b)) λa _=>[c a<=4000000]
def aeH:bM q 201 HF:=.bn λb d a=>Xl b d a
abbrev EC(a:cb):n fw:=a.2.map λb=>(b.1,a.1)
def hc(b:n cb)(a d:Nat):n fw:=dT (b.take a)++(EC (b.getD a (0,[]))).take d
def ED{d}(a:e<c d):dT (d.take (e+1))=dT (d.take e)++EC (d.getD e (0,[])):=by rw[ig a (0,[])];simp[dT]
theorem MG(d)(e):c (dT (d.take e))<=c (dT d):=by have a:dT d=dT (d.take e)++dT (d.drop e):=RU;grind
def zt{d}(b:e<c d):∃g,dT d=hc d e u++g:=by have a:dT d=dT (d.take (e+1))++dT (d.drop (e+1)):=RU;refine⟨(EC (d.getD e (0,[]))).drop u++dT (d.drop (e+1)),?_⟩;rw[a,ED b,hc,mt,mt];grind[List.take_append_drop]
theorem acf(d)(k):c (eB d k)<=c d+1:=by
 induction d with
 |nil=>simp[eB]
 |cons e b a=>
  simp only[eB];grind
theorem C_(d):∀a:n fw,c (d.foldl eB a)<=c a+c d:=by
 induction d with
 |nil=>grind
 |cons g e b=>grind[acf]
def VF(d)(J:c d<=4000000)(I:c (dT d)<=100000):Y q 164 [a2.C d] [] (e3.C (e7 d)) []:=by
 refine Y.K func164 rfl λK=>?_;have e:a9 q [(200,HL),(201,HF)]:=.cons aeO (.cons aeH .nil);refine cK e a C (g.aE 0 (λb=>b<=c d/\(dT (d.take b)).all gx=m) (λb:Nat=>[(0,a2.C d),(3,e3.C ((dT (d.take b)).foldl eB [])),(4,R b)]) (λ_=>[]) (λb=>c d-b) 0 a ?_ a ?_ a ⟨by omega,a⟩ ?_)
 .simp[dT]
 .simp
 rintro b ⟨r,j⟩;by_cases k:b<c d
 .have h:d.getD (b:Int).toNat a2.I=d.getD b (0,[]):=N;have o:=ED k;refine bf e [11] a bw (g.aE 0 (λu=>u<=(d.getD b (0,[])).2.length/\(hc d b u).all gx=m) (λu:Nat=>[(0,a2.C d),(3,e3.C ((hc d b u).foldl eB [])),(4,R b),(5,R u)]) (λ_=>[]) (λu=>(d.getD b (0,[])).2.length-u) 0 a ?_ a ?_ a ⟨by omega,by simpa[hc]using j⟩ ?_)
  .simp[hc]
  .simp
  rintro u ⟨O,B⟩;obtain⟨y,w⟩:=zt (d:=d) (u:=u) k;have A:c (hc d b u)<=100000:=N;have t:=C_ (hc d b u) [];simp only[gC]at t;have D:(d.getD b (0,[])).2.length<=100000:=by grind[MG]
  by_cases M:u<(d.getD b (0,[])).2.length
  .have i:(d.getD b (0,[])).2.getD (u:Int).toNat bH.I=(d.getD b (0,[])).2.getD u (0,[]):=N;have s:hc d b (u+1)=hc d b u++[(((d.getD b (0,[])).2.getD u (0,[])).1,(d.getD b (0,[])).1)]:=RA;cases l:gx (((d.getD b (0,[])).2.getD u (0,[])).1,(d.getD b (0,[])).1)with
   |false=>
    have z:e7 d=[]:=by obtain⟨y,w⟩:=zt (d:=d) (u:=u+1) k;unfold e7;rw[bl];grind
    refine bf e [21,-40] a ?_ (g.aX (bX.zero a ?_))
    .simp only[U,h,i,l,bA,a',a_];exact fu
    rw[z];simp
   |true=>
    refine bf e [21,40] a ?_ (g.ax (u+1) a ?_ ?_ ?_ ?_)
    .simp only[U,h,i,l,a7,e3.m,bA,a',a_];and_intros<;>first|exact e3.U _|omega
    .rw[s];simp only[uG,kb,List.foldl_nil,U.Y,U,h,i,e3.m,a',a_];and_intros<;>first|simp|rfl|omega
    .simp
    .grind
    omega
  have F:u=(d.getD b (0,[])).2.length:=x;have n:hc d b u=dT (d.take (b+1)):=by rw[o,hc];grind[List.length_map]
  refine bf e [-21] a ?_ (g.aB ?_)
  .simp only[U,h,dv];exact fu
  refine cK e a bJ (g.ax (b+1) a ?_ ?_ ?_ ?_)
  .rw[n];simp
  .simp
  .grind
  omega
 obtain rfl:b=c d:=x;rw[c_]at j⊢;refine bf e [-11] a E (g.aB ?_);refine cK e a C (g.ar a ?_);simp[e7,j]
abbrev Hk:bK:=da (e2 a2) (λa=>e3.C (e7 a)) λa=>[c a<=4000000,c (dT a)<=100000]
def aei:bM q 164 Hk:=.bd λb a=>VF b a.1 a.2
abbrev xK:bK:=eu c1 eF (λa b=>R (e9 a b)) λa b=>[cB a=m,cE b=m]
abbrev BP:bK:=da eF (λa=>b0 (fE a)) λa=>[cE a=m]
def M6:bM q 203 BP:=.bd λb a=>W' b a
theorem aca(d)(k):c (fF d k)=c d+1:=by
 induction d with
 |nil=>simp[fF]
 |cons e b a=>simp only[fF];split<;>simp[a]
def kr(d:Int)(a:n bB):n cW:=a.foldl (λe b=>fF e (e9 d b,fE b)) []
def DJ(h)(ab):c (kr h ab)=c ab:=by
 have d:∀ab b,c (ab.foldl (λe a=>fF e (e9 h a,fE a)) b)=c b+c ab:=by
  intro ab;induction ab with
  |nil=>grind
  |cons a i g=>grind[aca]
 have:=d ab [];rw[gC,cV]at this;exact this
def abh{ab}(a:e<c ab):kr h (ab.take (e+1))=fF (kr h (ab.take e)) (e9 h (ab.getD e []),fE (ab.getD e [])):=by unfold kr;grind[ig]
abbrev abX(a:Int)(b:n cW):an:=.cells 105 [.c (.int .i64 a),.c (.C v 2 (c b) (bH.fn b))]
def Wz(bS h)(ab)(e:cB h=m)(l:∀t∈ab,cE t=m)(y:c ab<=4000000):Y q 165 [R bS,R h,bR.C ab] [] (fD (kV bS h ab)) []:=by
 refine Y.bm ba func165 rfl rfl rfl λw=>?_;have d:a9 q [(186,xK),(203,BP),(202,HE)]:=.cons zC (.cons M6 (.cons aeG .nil));refine cK d a C (g.aE 2 (λb=>b<=c ab) (λb:Nat=>[(1,R h),(2,bR.C ab),(6,aD 0 0),(7,aD 1 0),(8,R b)]) (λb=>[.cells 105 [.c (.int .i64 0),.c (.C m 0 0 λ_=>[])],abX bS (kr h (ab.take b))]) (λb=>c ab-b) 0 a E a ?_ a x ?_)
 .simp[kr]
 intro b o;by_cases n:b<c ab
 .have i:ab.getD (b:Int).toNat bR.I=ab.getD b []:=N;have j:cE (ab.getD b [])=m:=l _ N;have r:=abh (h:=h) n;have k:=DJ h (ab.take b);rw[List.length_take]at k;refine bf d [15] a ?_ (g.ax (b+1) a ?_ ?_ ?_ ?_)
  .simp only[U,i,e,j,a7,bH.m,bA,a',a_];and_intros<;>first|exact bH.U _|omega
  .simp
  .rw[r];simp only[U.Y,U,i,bH.m,a',a_];and_intros<;>first|simp|rfl|omega
  .grind
  omega
 obtain rfl:b=c ab:=x;rw[c_];refine bf d [-15] a E (g.aB ?_);refine cK d a C (g.bh () [] ?_ (λu s=>absurd s E));simp[kV,kr]
def Xh(b):Y q 282 [b0 b] [] (bh (cE b)) []:=by
 refine Y.K func282 rfl λh=>?_;have e:a9 q [(29,jM),(132,xB)]:=.cons kA (.cons t132 .nil);by_cases d:1<=c b/\c b<=8
 .refine a8 e [6] a bW (g.ar a ?_);simp[cE,d.1,d.2]
 refine a8 e [-6] a bW (g.ar a ?_);have:cE b=v:=by simp[cE,<-Bool.decide_and,k9 d,sJ]
 simp[this]
abbrev HB:bK:=da eF (λa=>bh (cE a)) λ_=>[]
def aeB:bM q 282 HB:=.bd λa _=>Xh a
def W_(a):Y q 226 [b0 a] [] (b0 (fE a)) []:=by
 refine Y.K func226 rfl λd=>?_;have b:a9 q [(282,HB),(203,BP)]:=.cons aeB (.cons M6 .nil);cases t:cE a with
 |true=>exact a8 b [-5] rfl gA (g.ar rfl)
 |false=>exact a8 b [5] rfl gA (g.ar rfl (by simp[fE,t]))
abbrev Hz:bK:=da eF (λa=>b0 (fE a)) λ_=>[]
def aez:bM q 226 Hz:=.bd λa _=>W_ a
def abQ(b):c (fE b)<=8:=by
 unfold fE;split
 .rename_i a;simp[cE,cC,bA]at a;grind[HY]
 simp
def W8(i):Y q 185 [b0 i] [] (iN (ia i)) []:=by
 refine Y.K func185 rfl λz=>?_;have B:=z.T 0 a;have o:a9 q [(226,Hz)]:=.cons aez .nil;refine aZ a C ?_;have fin:∀j,j<=c i->fk (i.take j)=fk i->(j=0∨fk (i.take j)=i.take j)->i.take j=fk i:=λj d u n=>by
  rcases n with rfl|n
  .exact bJ
  grind
 have e:∀j,j<=c i->i.take j=fk i->ia i=if c i<=8/\fE (fk i)=i/\j≠0 then f (i.take j)else p:=λj d u=>by
  have D:=abQ (fk i);have s:j=0↔fk i=[]:=by grind[List.take_eq_nil_iff]
  unfold ia;rw[u];by_cases I:fE (fk i)=i
  .by_cases h:cE (fk i)=m
   .have:j≠0:=λw=>by rw[s.1 w]at h;cases h
    grind
   have w:j=0:=s.2 (by rw[fE,bl h]at I;grind);grind
  grind
 refine g.cq (S2:=Nat) 0 a a (λj=>j<=c i/\i.take j=fk i) (λj=>[(0,b0 i),(4,R j)]) (λ_=>[]) 0 (λj=>j<=c i/\fk (i.take j)=fk i) (λj:Nat=>[(0,b0 i),(4,R j)]) (λ_=>[]) (λj=>j) (c i) a E a C a ⟨by omega,by simp⟩ ?_ ?_
 .rintro dw j ⟨d,r⟩;rcases j with _|j
  .refine a6 [-9,-15] a E (g.aB ?_);exact dw 0 ⟨d,fin 0 d r (.inl a)⟩ a E a C
  have s:=MS (b:=i) (j:=j) x;have ae:((j:Int)+1-1).toNat=j:=x;by_cases n:i.getD j 0=46
  .refine a6 [9,15] a ?_ (g.ax j a ?_ C ⟨by omega,?_⟩ x)
   .have I:dj i j=46:=by unfold dj;exact bJ
    exact Pz
   .simp
   grind
  refine a6 [9,-15] a ?_ (g.aB ?_)
  .have I:dj i j≠46:=by unfold dj;intro A;exact n (uD.1 N)
   exact Pz
  exact dw (j+1) ⟨d,fin _ d r (.inr N)⟩ a E a C
 rintro j ⟨d,y⟩;have F:=e j d y;have t:mz i p (f (j:Int))=fk i:=y▸rfl;have l:((c i:Int)<=8)↔c i<=8:=x;by_cases k:c i<=8
 .by_cases iK:fE (fk i)=i
  .by_cases jL:j=0
   .refine a8 o [-21,-29,32] a ?_ (g.ar a ?_)
    .subst jL;simp[U,t,iK];grind
    exact bJ
   refine a8 o [-21,-29,-32] a ?_ (g.ar a ?_)
   .simp[t,l,k,iK,jL,d]
   exact bJ
  refine a8 o [-21,29,32] a ?_ (g.ar a ?_)
  .simp[t,l,k,iK,d]
  exact bJ
 refine a8 o [21,29,32] a bW (g.ar a ?_);exact bJ
abbrev BO:bK:=da eF (λa=>iN (ia a)) λ_=>[]
def M5:bM q 185 BO:=.bd λa _=>W8 a
def Xq(h)(k)(a:cB h=m):Y q 156 [R h,Ci k] [] (bh (right h k)) []:=by
 refine Y.K func156 rfl λd=>?_;have b:a9 q [(185,BO),(186,xK)]:=.cons M5 (.cons zC .nil);cases w:ia k.2 with
 |none=>exact a8 b [-14] rfl o3 (g.ar rfl (by simp[right,w]))
 |some e=>exact a8 b [14] rfl (by simp[w,a,Lo w]) (g.ar rfl (by simp[right,w]))
abbrev BQ:bK:=eu c1 sw (λa b=>bh (right a b)) λa _=>[cB a=m]
def M7:bM q 156 BQ:=.bn λb d a=>Xq b d a
def VV(h):Y q 70 [R h] [] (bh (cB h)) []:=by refine Y.K func70 rfl λd=>?_;have b:a9 q [(29,jM)]:=.cons kA .nil;exact b_ b a C (g.ar a (by simp[cB]))
abbrev sV:bK:=da c1 (λa=>bh (cB a)) λ_=>[]
def wm:bM q 70 sV:=.bd λa _=>VV a
abbrev xH(a:cb):an:=.cells 105 [.c (.int .i64 a.1),.c (lw a)]
def W2(h)(b)(j):Y q 228 [R h,fD b,R j] [] (iN (gq h b j)) []:=by
 refine Y.K func228 rfl λw=>?_;have i:a9 q [(70,sV),(156,BQ),(185,BO)]:=.cons wm (.cons M7 (.cons M5 .nil));cases bT:cB h with
 |false=>
  refine a8 i [11] a kE (g.ar a ?_);have:gq h b j=p:=by unfold gq jN;grind
  simp[this]
 |true=>
 have y:=w.ga 1 a 1 a;refine a8 i [-11] a kE (g.aE 1 (λd=>d<=c b.2/\b.2.find? (λk=>k.1==j)=(b.2.drop d).find? (λk=>k.1==j)) (λd:Nat=>[(0,R h),(4,aD 0 0),(2,R j),(8,R d)]) (λ_=>[xH b]) (λd=>c b.2-d) 0 a E a E a ⟨by omega,a⟩ ?_);rintro d ⟨u,e⟩;by_cases r:d<c b.2
 .have z:b.2.getD d bH.I=ea b d:=rfl;have s:b.2.drop d=ea b d::b.2.drop (d+1):=FY;rw[s,List.find?_cons]at e;by_cases n:(ea b d).1=j
  .rw[show((ea b d).1==j)=m by grind]at e;cases l:right h (ea b d)with
   |false=>
    have t:right h (j,(ea b d).2)=v:=n▸l;refine a8 i [16,26,34] a ds (g.aX (bX.zero a ?_));have o:gq h b j=p:=by have:=B1 (h:=h) (k:=ea b d) bT;rw[l]at this;simp[gq,e];simp_all
    simp[o]
   |true=>
    have t:right h (j,(ea b d).2)=m:=n▸l;refine a8 i [16,26,-34] a ds (g.aX (bX.zero a ?_));have o:gq h b j=ia (ea b d).2:=by simp[gq,e,jN];unfold right at l;grind
    simp_all
  rw[show((ea b d).1==j)=v by grind]at e;refine a8 i [16,-26] a ?_ (g.ax (d+1) a E E ⟨r,e⟩ x);simp[-al,z,n,a7,r];omega
 obtain rfl:d=c b.2:=x;refine a8 i [-16] a E (g.aB ?_);refine b_ i a C (g.ar a ?_);simp[gq,e]
abbrev HC:bK:=kj c1 (jE bH) c1 (λa d b=>iN (gq a d b)) λ_ _ _=>[]
def aeE:bM q 228 HC:=.c5 λa d b _=>W2 a d b
theorem DZ(b:Int)(a:cb):h' b a=(decide (1<=a.1/\a.1<=99)&&cB b&&decide (1<=c a.2/\c a.2<=4)&&(aB (c a.2)).all (ie b a)):=by grind[DX]
def adu{S:cb}(a:e≠0):ie h S e=(right h (ea S e)&&decide ((ea S (e-1)).1<(ea S e).1)):=by unfold ie;grind
def W5(h:Int)(S:cb):Y q 109 [R h,fD S] [] (bh (h' h S)) []:=by
 refine Y.K func109 rfl λu=>?_;have d:a9 q [(29,jM),(70,sV),(156,BQ)]:=.cons kA (.cons wm (.cons M7 .nil));have y:=u.ga 1 a 1 a;rw[DZ];by_cases j:1<=S.1/\S.1<=99
 rotate_left
 .exact a8 d [10,14,21] a bW (g.ar a bJ)
 cases e:cB h
 .exact a8 d [-10,14,21] a ds (g.ar a)
 by_cases k:1<=c S.2/\c S.2<=4
 rotate_left
 .exact a8 d [-10,-14,21] a bJ (g.ar a bw)
 refine a8 d [-10,-14,-21] a lN ?_;rw[ff j,ff k,fs,fs,fs];refine g.aE 1 (λb=>b<=c S.2/\∀r,r<b->ie h S r=m) (λb:Nat=>[(0,R h),(3,aD 0 0),(5,R b)]) (λ_=>[xH S]) (λb=>c S.2-b) 0 a E a E a ⟨by omega,by omega⟩ ?_;rintro b ⟨s,l⟩;by_cases t:b<c S.2
 .have B:S.2.getD b bH.I=ea S b:=rfl;cases i:right h (ea S b)with
  |false=>
   refine a8 d [26,37,56] a ds (g.aX (bX.zero a ?_));rw[kK t (by simp only[ie,i,sJ])];simp
  |true=>
   by_cases o:b=0
   .subst o;refine a8 d [26,-37,-40,-56] a ?_ (g.ax 1 a E E ⟨t,iJ l (by simp only[ie,i,fs];rfl)⟩ x);exact lN
   have n:S.2.getD (b-1) bH.I=ea S (b-1):=rfl;have z:=adu (h:=h) (S:=S) o;by_cases w:(ea S (b-1)).1<(ea S b).1
   .refine a8 d [26,-37,40,-54,-56] a ?_ (g.ax (b+1) a E E ⟨t,iJ l N⟩ x);simp[-al,B,n,i,e,t,w,a7];omega
   refine a8 d [26,-37,40,54,56] a ?_ (g.aX (bX.zero a ?_))
   .simp[-al,B,n,i,e,t,a7];omega
   exact j5
 obtain rfl:b=c S.2:=x;refine a8 d [-26] a E (g.aB ?_);exact b_ d a C (g.ar a bw)
abbrev Hy:bK:=eu c1 (jE bH) (λa b=>bh (h' a b)) λ_ _=>[]
def aew:bM q 109 Hy:=.bn λa b _=>W5 a b
def oC{a:n α}{I:α}(b:e<c a):a.getD e I∈a:=N
def Y_{a:n Int}{b:Int}:a.contains b=!(aB (c a)).all λd=>!(a.getD d 0==b):=by rw[pb,j',<-qd,f',AT];grind[List.mem_iff_getElem]
def U'(d:n Int)(e:Int):Y q 60 [aC.C d,R e] [] (bh (d.contains e)) []:=by
 refine Y.K func60 rfl λk=>?_;have o:=k.C 0 a;refine aZ a C ?_;rw[Y_];refine g.b_ (λb=>b<=c d/\∀i,i<b->(!(d.getD i 0==e))=m) (λb:Nat=>[(0,aC.C d),(1,R e),(5,R b)]) (λ_=>[]) (λb=>c d-b) 0 a E a C ⟨by omega,by omega⟩ ?_;rintro b ⟨l,j⟩;by_cases t:b<c d
 .have r:d.getD b aC.I=d.getD b 0:=rfl;by_cases h:d.getD b 0=e
  .refine a6 [9,17] a ?_ (g.bS (bX.zero a ?_))
   .simp[-al,r,h,t]
   exact j5
  refine a6 [9,-17] a ?_ (g.b5 (b+1) a E a C ⟨t,iJ j N⟩ x);simp[-al,r,h,t,a7];omega
 obtain rfl:b=c d:=x;refine a6 [-9] a E (g.bt a a ?_);exact aZ a C (g.ar a ds)
abbrev u0:bK:=eu (e2 aC) c1 (λa b=>bh (a.contains b)) λ_ _=>[]
def zA:bM q 60 u0:=.bn λa b _=>U' a b
def Xf(e:Int)(b:n cb)(h:Int):Y q 187 [R e,a2.C b,R h] [] (iN (dP e b h)) []:=by
 refine Y.K func187 rfl λs=>?_;have u:=s.C 1 a;have k:a9 q [(228,HC)]:=.cons aeE .nil;refine b_ k a C (g.b_ (λd=>d<=c b/\dP e b h=dP e (b.drop d) h) (λd:Nat=>[(0,R e),(1,a2.C b),(2,R h),(8,R d)]) (λ_=>[]) (λd=>c b-d) 0 a E a C ⟨by omega,a⟩ ?_);rintro d ⟨t,i⟩;by_cases l:d<c b
 .have r:b.drop d=b.getD d (0,[])::b.drop (d+1):=FY;have o:((b.getD d a2.I).1,bH.af (b.getD d a2.I).2.length (bH.fn (b.getD d a2.I).2))=b.getD d (0,[]):=bJ;rw[r,show dP e (b.getD d (0,[])::b.drop (d+1)) h=_ from List.findSome?_cons]at i;cases j:gq e (b.getD d (0,[])) h with
  |some w=>
   rw[j]at i;refine a8 k [14,27] a ?_ (g.bS (bX.zero a ?_))
   .simp[-al,o,j,l,bH.U]
   simp_all
  |none=>
   rw[j]at i;refine a8 k [14,-27] a ?_ (g.b5 (d+1) a E a C ⟨l,i⟩ x);simp[-al,o,j,l,a7,bH.U];omega
 obtain rfl:d=c b:=x;refine a6 [-14] a E (g.bt a a ?_);exact aZ a C (g.ar a (by rw[i,sH];simp[dP]))
abbrev HA:bK:=kj c1 (e2 a2) c1 (λb a d=>iN (dP b a d)) λ_ _ _=>[]
def aeA:bM q 187 HA:=.c5 λb a d _=>Xf b a d
def Xr(w i):Y q 229 [bR.C w,bR.C i] [] (bh (w==i)) []:=by
 refine Y.K func229 rfl λk=>?_;have t:=k.C 0 a;by_cases r:c w=c i
 rotate_left
 .have:(w==i)=v:=eM.2 N;exact a6 [10] a bW (g.ar a (by simp[this]))
 refine a6 [-10] a bW (g.b_ (λb=>b<=c w/\∀d,d<b->w.getD d []=i.getD d []) (λb:Nat=>[(0,bR.C w),(1,bR.C i),(5,R b)]) (λ_=>[]) (λb=>c w-b) 0 a E a C ⟨by omega,by omega⟩ ?_);rintro b ⟨o,s⟩;by_cases l:b<c w
 .have h:∀j:n bB,j.getD b bR.I=j.getD b []:=λ_=>rfl;by_cases e:w.getD b []=i.getD b []
  .refine a6 [14,-25] a ?_ (g.b5 (b+1) a E a C ⟨l,λd u=>?_⟩ x)
   .simp[-al,h,e,a7];omega
   grind
  refine a6 [14,25] a ?_ (g.bS (bX.zero a ?_))
  .simp[-al,h,e];omega
  exact Fv
 obtain rfl:b=c w:=x;have:w=i:=rx r λd e y=>by grind
 refine a6 [-14] a E (g.bt a a ?_);exact aZ a C (g.ar a (by simp[this]))
def aeK:bM q 229 xG:=.bn λa b _=>Xr a b
def Lw(o):∀d e b,b∈jX o d e->c b<=8
 |0,_,b,a=>by exact bJ
 |d+1,e,b,a=>by
  simp only[jX]at a;split at a
  .rename_i g;rcases fr.1 a with rfl|a
   .grind [sY]
   exact Lw o d _ b a
  grind
def Tn{d}{a}(e:a∈d)(g:8<c a):jO d=p:=by unfold jO;rw[bl];intro b;simp[cC,gZ]at b;have:=Lw d.flatten (c d.flatten) 0 a (by rw[show jX d.flatten (c d.flatten) 0=d from b.2];exact e);omega
def YL(a:n bB)(e):(a.take e).flatten.length<=c a.flatten:=F2
def Tm{d:n bB}(b:40<(d.take e).flatten.length):jO d=p:=by have:=YL d e;unfold jO;rw[bl];intro a;simp only[cC,fG,bA]at a;omega
def VT(d):Y q 188 [bR.C d] [] (iN (jO d)) []:=by
 refine Y.K func188 rfl λo=>?_;have s:=o.C 0 a;have b:a9 q [(76,xC),(197,xE),(229,xG)]:=.cons MX (.cons EM (.cons aeK .nil));refine b_ b a C (g.b_ (λe=>e<=c d/\(d.take e).flatten.length<=48) (λe:Nat=>[(0,bR.C d),(4,b0 (d.take e).flatten),(5,R e)]) (λ_=>[]) (λe=>c d-e) 0 a E a C ⟨by omega,by simp⟩ ?_);rintro e ⟨n,k⟩;by_cases j:e<c d
 .have i:d.getD e bR.I=d.getD e []:=rfl;have u:(d.take (e+1)).flatten=(d.take e).flatten++d.getD e []:=ih;by_cases h:c (d.getD e [])<=8
  .by_cases r:(d.take e).flatten.length<=40
   .refine a8 b [9,-18,-22] a ?_ (g.b5 (e+1) a ?_ a C ⟨j,by grind⟩ x)
    .simp[-al,-List.length_flatten,i,a7];omega
    simp_all
   refine a8 b [9,-18,22] a ?_ (g.bS (bX.zero a ?_))
   .simp[-al,-List.length_flatten,i];omega
   simp[Tm (d:=d) (e:=e) x]
  refine a8 b [9,18,22] a ?_ (g.bS (bX.zero a ?_))
  .simp[-al,i];omega
  simp[U,U.Y,Tn (oC (I:=[]) j) x]
 obtain rfl:e=c d:=x;rw[c_]at k⊢;refine a8 b [-9] a E (g.bt a a ?_);have l:=bR.m d;cases h:fG d.flatten with
 |false=>exact a8 b [32,38] rfl (by simp[h]) (g.ar rfl (by simp[jO,h]))
 |true=>
  have t:d9 d.flatten=m:=by simp[fG,cC]at h;exact h.2
  cases r:(cy d.flatten==d)with
  |false=>
   refine a8 b [-32,38] a ?_ (g.ar a (by simp[jO,r]));exact bJ
  |true=>
   refine a8 b [-32,-38] a ?_ (g.ar a (by simp[jO,h,r]));exact bJ
abbrev Hn:bK:=da (e2 bR) (λa=>iN (jO a)) λ_=>[]
def aem:bM q 188 Hn:=.bd λa _=>VT a
abbrev zr(a:eh):an:=.cells 129 [.c (.int .i64 a.1),.c (.C v 2 (c a.2) (cq.fn a.2))]
abbrev ny(d:Int)(b:n cb)(a:n Int):n bB:=a.map λe=>(dP d b e).getD []
def Y9{ab}{a}(b:u<c a):ny h ab (a.take (u+1))=ny h ab (a.take u)++[(dP h ab (a.getD u 0)).getD []]:=ih
def YD{ab}{a}(d:u<c a)(b:dP h ab (a.getD u 0)=p):h6 h ab a=p:=N5
def YE{ab}{a}(d:∀b,b<c a->(dP h ab (a.getD b 0)).isSome=m):h6 h ab a=f (ny h ab a):=by unfold h6;rw[br];grind[List.mem_iff_getElem]
def XM(h)(b)(ab)(aa:c b.2<=4000000)(T:∀e∈b.2,c e.2<=4000000):
  Y q 157 [R h,iO b,a2.C ab] [] (nO ((e0 h b ab).getD []) (e0 h b ab).isSome) []:=by
 refine Y.K func157 rfl λH=>?_;have n:a9 q [(70,sV),(187,HA),(188,Hn),(43,sT)]:=.cons wm (.cons aeA (.cons aem (.cons zy .nil)));cases bT:cB h with
 |false=>
  refine a8 n [19] a kE (g.ar a ?_);simp[e0,bT]
 |true=>
 refine a8 n [-19,904] a kE (g.bM 8 53 2 a a ?_);refine b_ n a C (g.aE 2 (λl=>l<=c b.2/\∀k,k<l->(hk h ab (b.2.getD k ([],[]))).isSome=m) (λl:Nat=>[(0,R h),(2,a2.C ab),(4,aD 0 0),(8,.p (.R (.w 1 2 (c (fN h ab (b.2.take l))) (bC.fn (fN h ab (b.2.take l)))))),(9,R l)]) (λl=>[zr b,.w 53 2 (c (fN h ab (b.2.take l))) (bC.fn (fN h ab (b.2.take l)))]) (λl=>c b.2-l) 0 a Ak a Ak a ⟨by omega,by omega⟩ ?_);rintro l ⟨V,O⟩;by_cases u:l<c b.2
 .have F:=T _ (oC (I:=([],[])) u);have ae:=CZ (h:=h) (ab:=ab) u;have X:c (fN h ab (b.2.take l))=l:=by simp[fN];omega
  have i:b.2.getD (l:Int).toNat cq.I=b.2.getD l ([],[]):=N;have B:=Ew (h:=h) (ab:=ab) u;generalize y:b.2.getD l ([],[])=e at F ae i B;generalize fN h ab (b.2.take l)=o at *;refine a8 n [25,908] a bW (g.bM 10 9 1 a a ?_);refine b_ n a C (g.aE 3 (λk=>k<=c e.2/\∀w,w<k->(dP h ab (e.2.getD w 0)).isSome=m) (λk:Nat=>[(0,R h),(2,a2.C ab),(4,aD 0 0),(8,.p (.R (.w 1 2 (c o) (bC.fn o)))),(9,R l),(10,.p (.R (.w 2 1 (c (ny h ab (e.2.take k))) (bR.fn (ny h ab (e.2.take k)))))),(11,R k)]) (λk=>[zr b,.w 53 2 (c o) (bC.fn o),.w 9 1 (c (ny h ab (e.2.take k))) (bR.fn (ny h ab (e.2.take k)))]) (λk=>c e.2-k) 0 a E a E a ⟨by omega,by omega⟩ ?_);rintro k ⟨ad,Z⟩;by_cases D:k<c e.2
  .have r:e.2.getD (k:Int).toNat aC.I=e.2.getD k 0:=N;cases z:dP h ab (e.2.getD k 0)with
   |none=>
    have t:hk h ab e=p:=by simp[hk,YD D z]
    refine a8 n [37,56] a ?_ (g.aX (g.dO (bX.zero a ?_)))
    .simp only[U,i,r,z,a2.m,a2.U];grind
    rw[B t];simp
   |some w=>
    have d:=Y9 (h:=h) (ab:=ab) D;rw[z]at d;have M:c (ny h ab (e.2.take k))=k:=N;have s:=bR.a0 (ny h ab (e.2.take k)) w;refine a8 n [37,-56] a ?_ (g.ax (k+1) a ?_ ?_ ⟨D,λW S=>?_⟩ x)
    .simp only[U,i,r,z,a2.m,a2.U,M,a7,show te.bytes=16 from a];grind
    .exact Qh
    .exact Qh
    grind
  obtain rfl:k=c e.2:=x;have J:=YE Z;rw[c_];have M:c (ny h ab e.2)=c e.2:=E;refine a8 n [-37] a (by simp only[U,i];simp[u]) (g.aB ?_);cases j:jO (ny h ab e.2)with
  |none=>
   have t:hk h ab e=p:=by simp[hk,J,j]
   refine a8 n [68] a ?_ (g.aX (bX.zero a ?_))
   .simp only[U,bR.m,bR.U,j];simp
   rw[B t];simp
  |some K=>
   have t:hk h ab e=f (e.1,K):=by simp[hk,J,j]
   rw[t]at ae;have Q:=bC.a0 o (e.1,K);refine a8 n [-68] a ?_ (g.ax (l+1) a ?_ ?_ ⟨u,λW S=>?_⟩ x)
   .simp only[U,i,bR.m,bR.U,j,X,a7,show qF.bytes=32 from a];grind
   .exact QB
   .exact QB
   grind
 obtain rfl:l=c b.2:=x;rw[c_];have G:b.2.all (λe=>(hk h ab e).isSome)=m:=List.all_eq_true.2 λe F=>by grind[List.mem_iff_getElem]
 refine a8 n [-25] a E (g.aB ?_);cases A:dX (fN h ab b.2)with
 |false=>
  refine a8 n [83] a ?_ (g.ar a ?_)
  .simp[bC.m,bC.U,A]
  simp[e0,A]
 |true=>
  refine a8 n [-83] a ?_ (g.ar a ?_)
  .simp[bC.m,bC.U,A]
  simp[e0,A,bT,G]
abbrev HK:bK:=kj c1 (jE cq) (e2 a2) (λd b a=>nO ((e0 d b a).getD []) (e0 d b a).isSome) λ_ b _=>[c b.2<=4000000,∀e∈b.2,c e.2<=4000000]
def aeN:bM q 157 HK:=.c5 λd e a b=>XM d e a b.1 b.2
abbrev AA:=Int×Int
def hy(a:AA):Bool:=decide (1<=a.1/\a.1<=2)&&decide (1<=a.2/\a.2<=20)
def g9(a:n AA):Bool:=(aB (c a)).all (λb=>hy (a.getD b (0,0)))&&decide (c a<=9)
abbrev Ch(a:AA):y:=.p (.agg [.c (.int .i64 a.1),.c (.int .i64 a.2)])
def Vi(b):Y q 158 [Ch b] [] (bh (hy b)) []:=by
 refine Y.K func158 rfl λh=>?_;have e:a9 q [(29,jM)]:=.cons kA .nil;by_cases d:1<=b.1/\b.1<=2
 .exact a8 e [6] a (by simp[d]) (g.ar a (by simp[hy,d]))
 exact a8 e [-6] a bW (g.ar a (by simp only[U,hy,k9 d];simp))
def Ww(d):Y q 111 [a1.C d] [] (bh (g9 d)) []:=by
 refine Y.K func111 rfl λl=>?_;have r:=l.C 0 a;have h:a9 q [(158,da p' (λe=>bh (hy e)) λ_=>[])]:=.cons (.bd λe _=>Vi e) .nil;refine b_ h a C ?_;unfold g9;refine g.b_ (λb=>b<=c d/\∀k,k<b->hy (d.getD k (0,0))=m) (λb:Nat=>[(0,a1.C d),(3,R b)]) (λ_=>[]) (λb=>c d-b) 0 a E a C ⟨by omega,by omega⟩ ?_;rintro b ⟨o,j⟩;by_cases e:b<c d
 .have n:d.getD b a1.I=d.getD b (0,0):=rfl;cases i:hy (d.getD b (0,0))with
  |false=>
   refine a8 h [7,15] a ds (g.bS (bX.zero a ?_));rw[kK e i];simp
  |true=>
   refine a8 h [7,-15] a ?_ (g.b5 (b+1) a E a C ⟨e,iJ j i⟩ x);simp[-al,n,i,e,a7];omega
 obtain rfl:b=c d:=x;refine a8 h [-7] a E (g.bt a a ?_);exact b_ h a C (g.ar a (by rw[f'.2 j];simp;omega))
abbrev oh:bK:=da (e2 a1) (λa=>bh (g9 a)) λ_=>[]
def M1:bM q 111 oh:=.bd λa _=>Ww a
def dg(a:n cb):n Int:=a.flatMap λb=>b.2.map (·.1)
def kg(d:α->Int)(b:α)(e:n α)(a:Nat):Bool:=a==0||decide (d (e.getD (a-1) b)<d (e.getD a b))
def nN(d:Int)(a:n cb)(b:Nat):Bool:=h' d (a.getD b (0,[]))&&kg (·.1) (0,[]) a b
def ly(d:Int)(a:cj)(b:Nat):Bool:=decide (1<=(a.2.1.getD b (0,[])).1/\(a.2.1.getD b (0,[])).1<=20)&&kg (·.1) (0,[]) a.2.1 b&&(e0 d (a.2.1.getD b (0,[])) a.1).isSome
def hX(b:Int)(a:cj):Bool:=(aB (c a.1)).all (nN b a.1)&&decide (dg a.1).Nodup&&(aB (c a.2.1)).all (ly b a)&&cB b&&g9 a.2.2&&decide (c a.1<=20)
def KY{ab}(a:e<c ab):dg (ab.take (e+1))=dg (ab.take e)++(ab.getD e (0,[])).2.map (·.1):=by rw[ig a (0,[])];simp[dg]
def abl{ab}(a:¬(dg (ab.take e)).Nodup):¬(dg ab).Nodup:=λb=>a (by
 have:dg ab=dg (ab.take e)++dg (ab.drop e):=RS
 grind)
abbrev oY(a:cj):an:=.cells 27 [.c (.C v 2 (c a.1) (a2.fn a.1)),.c (.C v 2 (c a.2.1) (bi.fn a.2.1)),.c (.C v 2 (c a.2.2) (a1.fn a.2.2))]
def U_(h)(b)(k)(i:c k.2<=4000000)(l:∀e∈k.2,c e.2<=4000000):Y q 110 [R h,bV b,iO k] [] (bh (e0 h k b.1).isSome) []:=by
 refine Y.K func110 rfl λj=>?_;have d:a9 q [(157,HK)]:=.cons aeN .nil;have n:(k.1,cq.af (c k.2) (cq.fn k.2))=k:=by rw[cq.m]
 refine b_ d a bJ (g.ar a ?_);simp[cq.m,a2.m]
abbrev Hi:bK:=kj c1 pf (jE cq) (λb d a=>bh (e0 b a d.1).isSome) λ_ _ a=>[c a.2<=4000000,∀e∈a.2,c e.2<=4000000]
def aef:bM q 110 Hi:=.c5 λb d e a=>U_ b d e a.1 a.2
def qi{ae:α->Int}{I}{d}(a:e≠0):kg ae I d e=decide (ae (d.getD (e-1) I)<ae (d.getD e I)):=by unfold kg;grind
def XX(h)(b)(L:kx b)(P:c b.1<=4000000)(ad:c b.2.1<=4000000):Y q 61 [R h,bV b] [] (bh (hX h b)) []:=by
 refine Y.K func61 rfl λaP=>?_;have n:a9 q [(109,Hy),(60,u0),(29,jM),(110,Hi),(70,sV),(111,oh)]:=.cons aew (.cons zA (.cons kA (.cons aef (.cons wm (.cons M1 .nil)))));refine a8 n [902] a C (g.bM 5 3 1 a a ?_);refine b_ n a C ?_;unfold hX;refine g.aE 2 (λe=>e<=c b.1/\(∀k,k<e->nN h b.1 k=m)/\(dg (b.1.take e)).Nodup/\c (dg (b.1.take e))<=4*e) (λe:Nat=>[(0,R h),(3,aD 0 0),(5,.p (.R (.w 1 1 (c (dg (b.1.take e))) (aC.fn (dg (b.1.take e)))))),(6,R e)]) (λe=>[oY b,.w 3 1 (c (dg (b.1.take e))) (aC.fn (dg (b.1.take e)))]) (λe=>c b.1-e) 0 a Fj a Fj a ⟨by omega,by omega,by simp[dg],by simp[dg]⟩ ?_;rintro e ⟨K,A,T,Z⟩;by_cases t:e<c b.1
 .have S:=KY t;have O:=abl (ab:=b.1) (e:=e+1);have z:b.1.getD e a2.I=b.1.getD e (0,[]):=rfl;have j:b.1.getD (e-1) a2.I=b.1.getD (e-1) (0,[]):=rfl;have r:nN h b.1 e=(h' h (b.1.getD e (0,[]))&&kg (·.1) (0,[]) b.1 e):=rfl;have W:=qi (ae:=λi:cb=>i.1) (I:=(0,[])) (d:=b.1) (e:=e);generalize y:b.1.getD e (0,[])=i at *;generalize b.1.getD (e-1) (0,[])=u at *;cases o:h' h i with
  |false=>
   rw[o,sJ]at r;refine a8 n [14,25,44] a Qm (g.aX (bX.zero a ?_));rw[kK t r];simp
  |true=>
   have ag:c i.2<=4:=by grind[DZ]
   rw[o,fs]at r;cases B:kg (·.1) (0,[]) b.1 e with
   |false=>
    have w:e≠0:=by rintro rfl;cases B
    have J:¬u.1<i.1:=N;refine a8 n [14,-25,28,42,44] a QN (g.aX (bX.zero a ?_));rw[kK t (r.trans B)];simp
   |true=>
   rw[B]at r;apply g.cn [(0,R h),(3,aD 0 0),(5,.p (.R (.w 1 1 (c (dg (b.1.take e))) (aC.fn (dg (b.1.take e)))))),(6,R e),(7,R 0)] [oY b,.w 3 1 (c (dg (b.1.take e))) (aC.fn (dg (b.1.take e)))]
   .intro aa;by_cases w:e=0
    .subst w;refine a8 n [14,-25,-28,-44] a Qm (aa _ _ a ?_);simp
    have J:u.1<i.1:=N;refine a8 n [14,-25,28,-42,-44] a QN (aa _ _ a ?_);simp
   generalize dg (b.1.take e)=l at *;refine g.aE 2 (λk=>k<=c i.2/\(l++(i.2.take k).map (·.1)).Nodup) (λk:Nat=>[(0,R h),(3,aD 0 0),(5,.p (.R (.w 1 1 (c (l++(i.2.take k).map (·.1))) (aC.fn (l++(i.2.take k).map (·.1)))))),(6,R e),(7,R k)]) (λk=>[oY b,.w 3 1 (c (l++(i.2.take k).map (·.1))) (aC.fn (l++(i.2.take k).map (·.1)))]) (λk=>c i.2-k) 0 a E a E a ⟨by omega,by grind⟩ ?_;rintro k ⟨ah,G⟩;by_cases s:k<c i.2
   .have Q:i.2.getD k bH.I=ea i k:=rfl;have cL:l++(i.2.take (k+1)).map (·.1)=(l++(i.2.take k).map (·.1))++[(ea i k).1]:=ih;have V:c (l++(i.2.take k).map (·.1))=c l+k:=N;generalize l++(i.2.take k).map (·.1)=D at *;cases M:D.contains (ea i k).1 with
    |true=>
     refine a8 n [53,67] a ?_ (g.aX (g.dO (bX.zero a ?_)))
     .simp[-al,-List.contains_eq_mem,z,Q,t,s,M,aC.m,aC.U]
     .have bD:¬(dg b.1).Nodup:=O (by
       have ai:l++i.2.map (·.1)=(l++(i.2.take (k+1)).map (·.1))++(i.2.drop (k+1)).map (·.1):=E
       grind)
      simp[bD]
    |false=>
     have H:=aC.a0 D (ea i k).1;have X:aC.af (c l+k) (aC.fn D)=D:=by rw[<-V];exact aC.m D
     refine a8 n [53,-67] a ?_ (g.ax (k+1) a ?_ ?_ ⟨s,?_⟩ x)
     .simp[-al,-List.contains_eq_mem,z,Q,t,s,M,aC.m,aC.U,V,X,a7,show ef.bytes=8 from a];omega
     .exact P5
     .exact P5
     grind
   obtain rfl:k=c i.2:=x;rw[c_]at G⊢;refine a8 n [-53] a ?_ (g.aB ?_)
   .simp[-al,z,t]
   refine b_ n a bJ (g.ax (e+1) a ?_ ?_ ⟨t,iJ A r,by grind,by grind⟩ x)
   .rw[S];simp
   rw[S];simp
 obtain rfl:e=c b.1:=x;rw[c_]at T⊢;refine a8 n [-14] a E (g.aB ?_);refine b_ n a C ?_;rw[f'.2 A,ff T,fs,fs];generalize dg b.1=l;refine g.aE 2 (λe=>e<=c b.2.1/\(∀k,k<e->ly h b k=m)) (λe:Nat=>[(0,R h),(3,aD 0 0),(8,R e)]) (λ_=>[oY b,.w 3 1 (c l) (aC.fn l)]) (λe=>c b.2.1-e) 0 a E a E a ⟨by omega,by omega⟩ ?_;rintro e ⟨K,A⟩;by_cases t:e<c b.2.1
 .have z:b.2.1.getD e bi.I=b.2.1.getD e (0,[]):=rfl;have j:b.2.1.getD (e-1) bi.I=b.2.1.getD (e-1) (0,[]):=rfl;have bc:=L _ (oC (I:=(0,[])) t);have r:ly h b e=(decide (1<=(b.2.1.getD e (0,[])).1/\(b.2.1.getD e (0,[])).1<=20)&&kg (·.1) (0,[]) b.2.1 e&&(e0 h (b.2.1.getD e (0,[])) b.1).isSome):=rfl;have W:=qi (ae:=λi:eh=>i.1) (I:=(0,[])) (d:=b.2.1) (e:=e);generalize y:b.2.1.getD e (0,[])=i at *;generalize b.2.1.getD (e-1) (0,[])=u at *;by_cases g2:1<=i.1/\i.1<=20
  rotate_left
  .refine a8 n [85,96,116,126] a ?_ (g.aX (bX.zero a ?_))
   .simp[-al,z,t];omega
   exact j5
  cases B:kg (·.1) (0,[]) b.2.1 e with
  |false=>
   have w:e≠0:=by rintro rfl;cases B
   have J:¬u.1<i.1:=N;refine a8 n [85,-96,99,113,116,126] a ?_ (g.aX (bX.zero a ?_))
   .simp[-al,z,j,t,g2,a7];omega
   exact j5
  |true=>
   rw[ff g2,B,fs,fs]at r;cases s:(e0 h i b.1).isSome with
   |false=>
    by_cases w:e=0
    .subst w;refine a8 n [85,-96,-99,-116,126] a ?_ (g.aX (bX.zero a ?_))
     .simp[-al,z,t,g2,cq.m,cq.U,a2.m,a2.U,bi.U,a1.U,s,bc.1];grind
     rw[kK t (r.trans s)];simp
    have J:u.1<i.1:=N;refine a8 n [85,-96,99,-113,-116,126] a Rs (g.aX (bX.zero a ?_));rw[kK t (r.trans s)];simp
   |true=>
    rw[s]at r;by_cases w:e=0
    .subst w;refine a8 n [85,-96,-99,-116,-126] a ?_ (g.ax 1 a E E ⟨t,iJ A r⟩ x);simp[-al,z,t,g2,a7,cq.m,cq.U,a2.m,a2.U,bi.U,a1.U,s,bc.1];grind
    have J:u.1<i.1:=N;refine a8 n [85,-96,99,-113,-116,-126] a ?_ (g.ax (e+1) a E E ⟨t,iJ A r⟩ x);exact Rs
 obtain rfl:e=c b.2.1:=x;refine a8 n [-85] a E (g.aB ?_);rw[f'.2 A,fs];cases bT:cB h
 .exact a8 n [-129,-134] a kE (g.ar a)
 cases F:g9 b.2.2
 .exact a8 n [129,-134] a N7 (g.ar a)
 exact a8 n [129,134] a N7 (g.ar a bW)
abbrev BT:bK:=eu c1 pf (λb a=>bh (hX b a)) λ_ a=>[kx a,c a.1<=4000000,c a.2.1<=4000000]
def M':bM q 61 BT:=.bn λb d a=>XX b d a.1 a.2.1 a.2.2
def gg(d:Int)(a:n Int×Bool)(b:Int):n Int×Bool:=
 if a.2=m then(if b=d then a else(a.1++[b],m))else if d<=b then(if b=d then(a.1++[d],m)else(a.1++[d,b],m))else(a.1++[b],v)
abbrev fx(d:Int)(b:n Int)(a:Nat):n Int×Bool:=(b.take a).foldl (gg d) ([],v)
def e8(b:n Int)(a:Int):n Int:=if(b.foldl (gg a) ([],v)).2=m then(b.foldl (gg a) ([],v)).1 else(b.foldl (gg a) ([],v)).1++[a]
def xj{j}{d}(a:e<c d):fx j d (e+1)=gg j (fx j d e) (d.getD e 0):=ih
def xi(j)(d):∀a,a<=c d->(fx j d a).1.length+(if(fx j d a).2=m then 0 else 1)<=a+1
 |0,_=>by simp[fx]
 |a+1,g=>by have:=xi j d a x;rw[xj x];generalize fx j d a=b at *;obtain⟨b,e⟩:=b;unfold gg;grind
theorem aaK(d)(j):c (e8 d j)<=c d+1:=by
 have:=xi j d (c d) (bE _);simp[fx,c_]at this;unfold e8;split at this<;>rename_i a
 .grind
 grind
def afM{e:Type}(a:c0 e)(d)(k X):bt (c d+1+1) (cf (c d+1) (cf (c d) (a.fn d) λb=>[a.a9 k].getD b []) λb=>[a.a9 X].getD b []) (a.fn (d++[k,X])):=a.e1 d k X
def TZ(d)(j)(A:c d<=100000000):Y q 108 [aC.C d,R j] [] (aC.C (e8 d j)) []:=by
 refine Y.K func108 rfl λz=>?_;refine a6 [902] a C (g.bM 5 3 1 a a ?_);refine aZ a C (g.aE 1 (λb=>b<=c d) (λb:Nat=>[(0,aC.C d),(1,R j),(5,.p (.R (.w 0 1 (fx j d b).1.length (aC.fn (fx j d b).1)))),(6,bh (fx j d b).2),(7,R b)]) (λb=>[.w 3 1 (fx j d b).1.length (aC.fn (fx j d b).1)]) (λb=>c d-b) 0 a N8 a N8 a x ?_);intro b o;have u:=xi j d b o;by_cases i:b<c d
 .have r:=xj (j:=j) i;have I:d.getD (b:Int).toNat aC.I=d.getD b 0:=ds;generalize d.getD b 0=X at *;generalize fx j d b=e at *;obtain⟨e,l⟩:=e;have ae:=λX=>aC.a0 e X;have s:=λw X=>aC.e1 e w X;have y:(c e+1+1)*8<=140737488355328:=N;have fin:∀n,fx j d (b+1)=n->True:=λ_ _=>trivial;have k:c d-(b+1)<c d-b:=x;by_cases h:X=j
  .cases l with
   |true=>
    rw[show gg j (e,m) X=(e,m) by simp[gg,h]]at r;refine a6 [12,-34] a ?_ (g.ax (b+1) a ?_ ?_ i k)
    .simp only[U,I,h,a7];simp;omega
    .rw[r];simp
    rw[r];simp
   |false=>
    rw[show gg j (e,v) X=(e++[j],m) by simp[gg,h]]at r;refine a6 [12,24,-34] a ?_ (g.ax (b+1) a ?_ ?_ i k)
    .simp only[U,I,h,a7,show ef.bytes=8 from a];simp;omega
    .exact Qg
    exact Qg
  cases l with
  |true=>
   rw[show gg j (e,m) X=(e++[X],m) by simp[gg,h]]at r;refine a6 [12,34] a O' (g.ax (b+1) a z8 ?_ i k);exact z8
  |false=>
   by_cases t:j<=X
   .rw[show gg j (e,v) X=(e++[j,X],m) by simp[gg,h,t]]at r;refine a6 [12,24,34] a ?_ (g.ax (b+1) a ?_ ?_ i k)
    .simp only[U,I,a7,show ef.bytes=8 from a];simp[h,t];omega
    .exact Ox
    exact Ox
   rw[show gg j (e,v) X=(e++[X],v) by simp[gg,t]]at r;refine a6 [12,-24,34] a O' (g.ax (b+1) a z8 ?_ i k);exact z8
 obtain rfl:b=c d:=x;unfold e8;simp[fx,c_]at u⊢;generalize d.foldl (gg j) ([],v)=e at *;obtain⟨e,l⟩:=e;have ae:=aC.a0 e j;refine a6 [-12] a E (g.aB ?_);cases l with
 |true=>exact aZ rfl E (g.ar rfl)
 |false=>
  refine aZ a ?_ (g.ar a ?_)
  .simp only[U,show ef.bytes=8 from a];simp at u⊢;omega
  simp[U,ka,dh,dm,gW];and_intros<;>first|exact ae|trivial
abbrev xD:bK:=eu (e2 aC) c1 (λa b=>aC.C (e8 a b)) λa _=>[c a<=100000000]
def EL:bM q 108 xD:=.bn λb d a=>TZ b d a
theorem qy(b):∀a:n Int,c (a.foldl e8 b)<=c b+c a
 |[]=>by simp
 |d::a=>by have:=qy (e8 b d) a;grind[aaK]
def yr{a:Type}(b:a->Int->a)(e:a){d}(g:u<c d):(d.take (u+1)).foldl b e=b ((d.take u).foldl b e) (d.getD u 0):=ih
def gI(a:n m8):n Int:=(eb a).foldl e8 []
theorem tv(d):c (gI d)<=c (eb d):=by
 have:=qy [] (eb d)
 rwa [gC,cV]at this
def XI(b)(I:c b.2<=4000000)(F:c (eb b.2)<=4000000):Y q 107 [iO b] [] (aC.C (gI b.2)) []:=by
 refine Y.K func107 rfl λA=>?_;have i:a9 q [(108,xD)]:=.cons EL .nil;refine b_ i a C (g.aE 1 (λe=>e<=c b.2) (λe:Nat=>[(1,aD 0 0),(3,aC.C (gI (b.2.take e))),(4,R e)]) (λ_=>[zr b]) (λe=>c b.2-e) 0 a (by simp[gI,eb]) a E a x ?_);intro e w;by_cases t:e<c b.2
 .have d:b.2.getD e cq.I=b.2.getD e ([],[]):=rfl;have n:=KV t;have y:=KW b.2 (e+1);have D:=tv (b.2.take e);have z:gI (b.2.take (e+1))=(b.2.getD e ([],[])).2.foldl e8 (gI (b.2.take e)):=by simp[gI,n,uG]
  rw[n,dm]at y;generalize b.2.getD e ([],[])=j at *;generalize gI (b.2.take e)=k at *;refine a8 i [11] a gA (g.aE 1 (λh=>h<=c j.2) (λh:Nat=>[(1,aD 0 0),(3,aC.C ((j.2.take h).foldl e8 k)),(4,R e),(5,R h)]) (λ_=>[zr b]) (λh=>c j.2-h) 0 a E a E a x ?_);intro h B;by_cases l:h<c j.2
  .have r:j.2.getD h aC.I=j.2.getD h 0:=rfl;have s:=yr e8 k l;have u:=qy k (j.2.take h);rw[List.length_take]at u;generalize(j.2.take h).foldl e8 k=jd at *;have o:=aC.m jd;refine a8 i [22] a ?_ (g.ax (h+1) a ?_ ?_ l x)
   .simp[-al,d,r,t,l,o,aC.U,a7];omega
   .rw[s];simp[-al,d,r,o]
   simp
  obtain rfl:h=c j.2:=x;rw[c_,<-z];refine a8 i [-22] a ds (g.aB ?_);exact Qv
 obtain rfl:e=c b.2:=x;rw[c_];refine a8 i [-11] a E (g.aB ?_);exact b_ i a C (g.ar a)
abbrev BM:bK:=da (jE cq) (λa=>aC.C (gI a.2)) λa=>[c a.2<=4000000,c (eb a.2)<=4000000]
def M3:bM q 107 BM:=.bd λb a=>XI b a.1 a.2
def hi(a:n eh):n Int:=a.flatMap λb=>eb b.2
def h9(b:n eh):n Int:=b.foldl (λa d=>(gI d.2).foldl e8 a) []
theorem A3{d}(a:e<c d):hi (d.take (e+1))=hi (d.take e)++eb (d.getD e (0,[])).2:=by rw[ig a (0,[])];simp[hi]
def Gy(d)(e):c (hi (d.take e))<=c (hi d):=by
 have a:hi d=hi (d.take e)++hi (d.drop e):=by unfold hi;grind[List.take_append_drop]
 grind
theorem KI{d}(a:e<c d):h9 (d.take (e+1))=(gI (d.getD e (0,[])).2).foldl e8 (h9 (d.take e)):=by unfold h9;grind[ig]
def yO(d):∀a,a<=c d->c (h9 (d.take a))<=c (hi (d.take a))
 |0,_=>by simp[h9]
 |a+1,e=>by have b:=yO d a x;grind[qy,tv,KI,A3]
def WC(b)(o:kx b)(N:c b.2.1<=4000000)(O:c (hi b.2.1)<=4000000):Y q 59 [bV b] [] (aC.C (h9 b.2.1)) []:=by
 refine Y.K func59 rfl λJ=>?_;have i:a9 q [(108,xD),(107,BM)]:=.cons EL (.cons M3 .nil);refine b_ i a C (g.aE 1 (λe=>e<=c b.2.1) (λe:Nat=>[(1,aD 0 0),(3,aC.C (h9 (b.2.1.take e))),(4,R e)]) (λ_=>[oY b]) (λe=>c b.2.1-e) 0 a (by simp[h9]) a E a x ?_);intro e l;by_cases t:e<c b.2.1
 .have s:b.2.1.getD e bi.I=b.2.1.getD e (0,[]):=rfl;have D:=o _ (oC (I:=(0,[])) t);have w:=A3 t;have B:=Gy b.2.1 (e+1);have M:=yO b.2.1 e l;have o:=KI t;rw[w,dm]at B;generalize b.2.1.getD e (0,[])=j at *;have F:=tv j.2;generalize h9 (b.2.1.take e)=k at *;refine a8 i [12] a ?_ ?_
  .simp[-al,t,s,cq.m,cq.U];omega
  have y:b.2.1.getD (e:Int).toNat bi.I=j:=by rw[c5];exact s
  rw[y,cq.m];refine g.aE 1 (λd=>d<=c (gI j.2)) (λd:Nat=>[(1,aD 0 0),(3,aC.C (((gI j.2).take d).foldl e8 k)),(4,R e),(5,aC.C (gI j.2)),(6,R d)]) (λ_=>[oY b]) (λd=>c (gI j.2)-d) 0 a E a E a x ?_;intro d K;generalize gI j.2=h at *;by_cases n:d<c h
  .have r:h.getD d aC.I=h.getD d 0:=rfl;have z:=yr e8 k n;have A:=qy k (h.take d);rw[List.length_take]at A;generalize(h.take d).foldl e8 k=jd at *;have u:=aC.m jd;refine a8 i [24] a ?_ (g.ax (d+1) a ?_ ?_ n x)
   .simp[-al,r,n,u,aC.U,a7];omega
   .rw[z];simp[-al,r,u]
   simp
  obtain rfl:d=c h:=x;rw[c_,<-o];refine a8 i [-24] a E (g.aB ?_);exact Qv
 obtain rfl:e=c b.2.1:=x;rw[c_];refine a8 i [-12] a E (g.aB ?_);exact b_ i a C (g.ar a)
abbrev BL:bK:=da pf (λa=>aC.C (h9 a.2.1)) λa=>[kx a,c a.2.1<=4000000,c (hi a.2.1)<=4000000]
def M2:bM q 59 BL:=.bd λb a=>WC b a.1 a.2.1 a.2.2
abbrev dW:=cj×n Int×n Int
abbrev dG:=Int×dW×(Int×Int×Int×bB)×n (Int×Int)×n Int
abbrev Yz:rl cj:=yk (vg a2) (yk (vg bi) (vg a1))
abbrev CV:rl dW:=yk Yz (yk (vg aC) (vg aC))
abbrev cJ(a:c0 α)(b:n α):Q:=.c (.C v a.bl (c b) (a.fn b))
abbrev wh(a:dW):n Q:=[cJ a2 a.1.1,cJ bi a.1.2.1,cJ a1 a.1.2.2,cJ aC a.2.1,cJ aC a.2.2]
abbrev gn(a:dW):y:=.p (.agg (wh a))
abbrev hY(a:dG):n Q:=.c (.int .i64 a.1)::(wh a.2.1++[.c (.int .i64 a.2.2.1.1),.c (.int .i64 a.2.2.1.2.1),.c (.int .i64 a.2.2.1.2.2.1),.c (.T a.2.2.1.2.2.2),cJ a1 a.2.2.2.1,cJ aC a.2.2.2.2])
abbrev ep(a:dG):y:=.p (.agg (hY a))
structure p8(b:cj):Prop where
 fR:c b.1<=4000000
 d_:kx b
 fb:c b.2.1<=4000000
 eC:c (hi b.2.1)<=4000000
def nF(a:n cb)(d:n Int)(b:Nat):Bool:=(a.any λe=>e.1==d.getD b 0)&&kg (λg=>g) 0 d b
def hd(b:Int)(a:dW):Bool:=(h9 a.1.2.1).all (λd=>a.2.1.contains d)&&(aB (c a.2.2)).all (nF a.1.1 a.2.2)&&hX b a.1
def Ss{d}{a:Int->Bool}:d.all a=(aB (c d)).all λb=>a (d.getD b 0):=by rw[pb,f',List.all_eq_true];grind[List.mem_iff_getElem]
def Sx{d}{S:cb->Bool}(a:u<c d):(d.take (u+1)).any S=((d.take u).any S||S (d.getD u (0,[]))):=ih
abbrev gh(a:dW):an:=.cells 30 (wh a)
def X5(h)(b)(n:p8 b.1):Y q 30 [R h,gn b] [] (bh (hd h b)) []:=by
 refine Y.K func30 rfl λJ=>?_;have l:a9 q [(59,BL),(60,u0),(61,BT)]:=.cons M2 (.cons zA (.cons M' .nil));have O:=J.ga 1 a 4 a;have K:=yO b.1.2.1 _ (bE _);rw[c_]at K;have X:=n.eC;refine b_ l a ?_ ?_
 .simp[a2.m,a2.U,bi.m,bi.U,a1.m,a1.U,n.d_,n.fb,n.eC]
 rw[bi.m];unfold hd;rw[Ss];generalize h9 b.1.2.1=k at *;refine g.aE 1 (λe=>e<=c k/\∀j,j<e->b.2.1.contains (k.getD j 0)=m) (λe:Nat=>[(0,R h),(3,aD 0 0),(5,aC.C k),(6,R e)]) (λ_=>[gh b]) (λe=>c k-e) 0 a E a E a ⟨by omega,by omega⟩ ?_;rintro e ⟨z,o⟩;by_cases t:e<c k
 .have s:k.getD e aC.I=k.getD e 0:=rfl;cases w:b.2.1.contains (k.getD e 0)with
  |false=>
   refine a8 l [16,26] a ?_ (g.aX (bX.zero a ?_))
   .simp[-al,-List.contains_eq_mem,s,t,w,aC.m,aC.U]
   rw[kK t w];simp
  |true=>
   refine a8 l [16,-26] a ?_ (g.ax (e+1) a E E ⟨t,iJ o w⟩ x);simp[-al,-List.contains_eq_mem,s,t,w,aC.m,aC.U,a7];omega
 obtain rfl:e=c k:=x;rw[f'.2 o,fs];refine a8 l [-16] a E (g.aB ?_);refine b_ l a C (g.aE 1 (λe=>e<=c b.2.2/\∀j,j<e->nF b.1.1 b.2.2 j=m) (λe:Nat=>[(0,R h),(3,aD 0 0),(7,R e)]) (λ_=>[gh b]) (λe=>c b.2.2-e) 0 a E a E a ⟨by omega,by omega⟩ ?_);rintro e ⟨z,o⟩;by_cases t:e<c b.2.2
 .have s:b.2.2.getD e aC.I=b.2.2.getD e 0:=rfl;have bc:b.2.2.getD (e-1) aC.I=b.2.2.getD (e-1) 0:=rfl;have A:nF b.1.1 b.2.2 e=((b.1.1.any λS=>S.1==b.2.2.getD e 0)&&kg (λD=>D) 0 b.2.2 e):=rfl;have Q:=qi (ae:=λD:Int=>D) (I:=0) (d:=b.2.2) (e:=e);generalize b.2.2.getD e 0=r at *;generalize b.2.2.getD (e-1) 0=B at *;refine a8 l [31] a gA (g.aE 1 (λj=>j<=c b.1.1) (λj:Nat=>[(0,R h),(3,aD 0 0),(7,R e),(8,bh ((b.1.1.take j).any λS=>S.1==r)),(9,R j)]) (λ_=>[gh b]) (λj=>c b.1.1-j) 0 a E a E a x ?_);intro j G;by_cases u:j<c b.1.1
  .have V:=n.fR;have y:b.1.1.getD j a2.I=b.1.1.getD j (0,[]):=rfl;have W:=Sx (S:=λS=>S.1==r) u;generalize b.1.1.getD j (0,[])=S at *;generalize(b.1.1.take j).any (λS=>S.1==r)=i at *;cases i with
   |true=>
    refine a8 l [39] a ?_ (g.ax (j+1) a ?_ ?_ u x)
    .simp[u,a7];omega
    .exact bJ
    simp
   |false=>
    refine a8 l [39] a ?_ (g.ax (j+1) a ?_ ?_ u x)
    .simp[-al,t,u,a7];omega
    .exact bJ
    simp
  obtain rfl:j=c b.1.1:=x;rw[c_];refine a8 l [-39] a E (g.aB ?_);cases F:b.1.1.any (λS=>S.1==r)with
  |false=>
   rw[F,sJ]at A;refine a8 l [77] a E (g.aX (bX.zero a ?_));rw[kK t A];simp
  |true=>
   rw[F,fs]at A;by_cases M:e=0
   .subst M;refine a8 l [-63,-77] a ?_ (g.ax 1 a E E ⟨t,iJ o bJ⟩ x);simp[a7]
   by_cases T:B<r
   .refine a8 l [63,-75,-77] a ?_ (g.ax (e+1) a E E ⟨t,iJ o N⟩ x);exact PT
   refine a8 l [63,75,77] a PT (g.aX (bX.zero a ?_));exact j5
 obtain rfl:e=c b.2.2:=x;rw[f'.2 o,fs];refine a8 l [-31] a E (g.aB ?_);refine b_ l a ?_ (g.ar a ?_)
 .simp[a2.m,a2.U,bi.m,bi.U,a1.m,a1.U,n.d_,n.fb,n.fR]
 simp[a2.m,bi.m,a1.m]
abbrev BU:bK:=eu c1 (AJ CV) (λb a=>bh (hd b a)) λ_ a=>[p8 a.1]
def Nb:bM q 30 BU:=.bn λb d a=>X5 b d a
theorem aaW{b a}(e:d9 b=m)(g:∀d∈a,d∈b):d9 a=m:=by unfold d9 at e⊢;grind
def Ly{o}(g:d9 o=m):∀e a,∀d∈jX o e a,cE d=m
 |0,_,d,b=>by exact bJ
 |e+1,a,d,b=>by
  simp only[jX]at b;split at b
  .rename_i h;have i:=sY o a h;rcases fr.1 b with rfl|b
   .have r:c ((o.drop a).take (eG o a-a))=eG o a-a:=N;simp[cE,cC,bA];grind[aaW]
   exact Ly g e _ d b
  grind
def vS{o}(a:d9 o=m):∀b∈cy o,cE b=m:=Ly a _ _
def Lx(o):∀a b,c (jX o a b)<=a
 |0,_=>bE _
 |a+1,b=>by
  simp[jX];split
  .have:=Lx o a (eG o b);grind
  simp
theorem vR(o):c (cy o)<=c o:=Lx o _ _
def eP(b:n cZ):n bB:=b.flatMap λa=>cy a.2
def GB{o}(a:e<c o):eP (o.take (e+1))=eP (o.take e)++cy (o.getD e ([],[])).2:=by rw[ig a ([],[])];simp[eP]
def GA(o)(e):c (eP (o.take e))<=c (eP o):=by
 have a:eP o=eP (o.take e)++eP (o.drop e):=by unfold eP;grind[List.take_append_drop]
 grind
def C9(h)(d)(ab):∀a:n bB,c (ab.foldl (fh h d) a)<=c a+c ab:=by
 induction ab with
 |nil=>grind
 |cons b j e=>
  intro a;have g:=e (fh h d a b);have i:c (fh h d a b)<=c a+1:=by unfold fh;split<;>simp
  grind
abbrev Hh:bK:=eu (e2 e3) c1 (λa b=>R (ll a b)) λa _=>[c a<=4000000]
def aed:bM q 198 Hh:=.bn λb d a=>U0 b d a
abbrev Hl:bK:=eu (e2 bR) eF (λa b=>bh (a.contains b)) λa _=>[c a<=4000000]
def aej:bM q 199 Hl:=.bn λb d a=>VA b d a
abbrev Iz(a:n bB):y:=.p (.R (.w 0 1 (c a) (bR.fn a)))
structure rm(o:n cZ):Prop where
 len:c o<=4000000
 fq:∀ae∈o,d9 ae.2=m/\c ae.2<=4000000
 all:c (eP o)<=100000
def WP(h)(o)(d)(n:cB h=m)(t:rm o)(T:c d<=4000000):Y q 163 [R h,bC.C o,e3.C d] [] (bR.C (gw h o d)) []:=by
 refine Y.K func163 rfl λQ=>?_;have k:a9 q [(197,xE),(186,xK),(198,Hh),(199,Hl)]:=.cons EM (.cons zC (.cons aed (.cons aej .nil)));refine bf k [902] a C (g.bM 7 9 1 a a ?_);refine cK k a C (g.aE 1 (λb=>b<=c o) (λb:Nat=>[(0,R h),(1,bC.C o),(2,e3.C d),(7,Iz ((eP (o.take b)).foldl (fh h d) [])),(8,R b)]) (λb=>[.w 9 1 (c ((eP (o.take b)).foldl (fh h d) [])) (bR.fn ((eP (o.take b)).foldl (fh h d) []))]) (λb=>c o-b) 0 a ?_ a ?_ a x ?_)
 .simp[eP]
 .simp[eP]
 intro b B;by_cases A:b<c o
 .have M:o.getD (b:Int).toNat bC.I=o.getD b ([],[]):=N;have z:o.getD b ([],[])∈o:=N;obtain⟨S,J⟩:=t.fq _ z;have D:=GB A;have K:=GA o (b+1);have V:=t.all;have W:=t.len;have I:=vS S;generalize o.getD b ([],[])=j at *;rw[D,dm]at K;refine bf k [15] a ds ?_;rw[M];refine g.aE 1 (λe=>e<=c (cy j.2)) (λe:Nat=>[(0,R h),(1,bC.C o),(2,e3.C d),(7,Iz ((eP (o.take b)++(cy j.2).take e).foldl (fh h d) [])),(8,R b),(9,bR.C (cy j.2)),(10,R e)]) (λe=>[.w 9 1 (c ((eP (o.take b)++(cy j.2).take e).foldl (fh h d) [])) (bR.fn ((eP (o.take b)++(cy j.2).take e).foldl (fh h d) []))]) (λe=>c (cy j.2)-e) 0 a E a E a x ?_;intro e y;have F:=C9 h d (eP (o.take b)++(cy j.2).take e) [];simp only[gC,dm,List.length_take]at F;by_cases O:e<c (cy j.2)
  .have i:(cy j.2).getD (e:Int).toNat bR.I=(cy j.2).getD e []:=N;have r:cE ((cy j.2).getD e [])=m:=I _ N;have l:(eP (o.take b)++(cy j.2).take (e+1)).foldl (fh h d) []=fh h d ((eP (o.take b)++(cy j.2).take e).foldl (fh h d) []) ((cy j.2).getD e []):=ih;generalize(eP (o.take b)++(cy j.2).take e).foldl (fh h d) []=dw at *;generalize(cy j.2).getD e []=u at *;have w:=bR.a0 dw u;by_cases s:ll d (e9 h u)=0
   .cases aa:dw.contains u with
    |true=>
     rw[fh,bl N]at l;refine bf k [27,38,45] a ?_ (g.ax (e+1) a ?_ ?_ ?_ ?_)
     .simp only[U,i,n,r,s,aa,a7,bR.m,e3.m,fT,bA,a',a_];exact QS
     .rw[l];simp
     .rw[l];simp
     .grind
     omega
    |false=>
     rw[fh,br N]at l;refine bf k [27,38,-45] a ?_ (g.ax (e+1) a ?_ ?_ ?_ ?_)
     .simp only[U,i,n,r,s,aa,a7,show te.bytes=16 from a,bR.m,e3.m,fT,bA,a',a_];exact QS
     .rw[l];simp only[U.Y,U,i,dm,fp,gC,a',a_];and_intros<;>first|exactλ_ _=>rfl|exact w|rfl|omega
     .rw[l];simp only[U.Y,U,i,dm,fp,gC,a',a_];and_intros<;>first|exact w|rfl|omega
     .grind
     omega
   rw[fh,bl N]at l;refine bf k [27,-38] a ?_ (g.ax (e+1) a ?_ ?_ ?_ ?_)
   .simp only[U,i,n,r,a7,e3.m,eM,d',s,qh,bA,a',a_];and_intros<;>first|exact e3.U _|omega
   .rw[l];simp
   .rw[l];simp
   .grind
   omega
  have X:e=c (cy j.2):=x;refine bf k [-27] a bw (g.aB ?_);exact cK k a bJ (g.ax (b+1) a ds ds N x)
 obtain rfl:b=c o:=x;rw[c_];refine bf k [-15] a E (g.aB ?_);refine cK k a C (g.ar a ?_);simp[gw,eP]
abbrev ks(b:Int)(a:n bB):n Int:=a.map (e9 b)
abbrev oL(a:Int)(b:n cZ):n m8:=b.map (oK a)
abbrev K8(b:Int)(a:n m8):n an:=[.cells 129 [.c (.int .i64 0),.c (.C m 0 0 λ_=>[])],.cells 129 [.c (.int .i64 b),.w 2 2 (c a) (cq.fn a)],.w 168 2 (c a) (cq.fn a)]
def WW(bS h)(o)(l:cB h=m)(t:rm o):Y q 166 [R bS,R h,bC.C o] [] (iO (gU bS h o)) []:=by
 refine Y.bm ba func166 rfl rfl rfl λT=>?_;have j:a9 q [(197,xE),(186,xK)]:=.cons EM (.cons zC .nil);refine bf j [902] a C (g.cr 1 1 168 2 (cq.fn []) a a ?_);refine cK j a C (g.aE 3 (λe=>e<=c o) (λe:Nat=>[(1,R h),(2,bC.C o),(6,aD 0 0),(7,aD 1 0),(8,R e)]) (λe=>K8 bS (oL h (o.take e))) (λe=>c o-e) 0 a E a E a x ?_);intro e z;by_cases K:e<c o
 .have s:o.getD (e:Int).toNat bC.I=o.getD e ([],[]):=N;have y:o.getD e ([],[])∈o:=N;obtain⟨I,F⟩:=t.fq _ y;have S:=t.len;have B:=vS I;have Q:=vR (o.getD e ([],[])).2;have n:oL h (o.take (e+1))=oL h (o.take e)++[oK h (o.getD e ([],[]))]:=ih;have M:c (oL h (o.take e))=e:=N;generalize o.getD e ([],[])=b at *;generalize oL h (o.take e)=k at *;refine bf j [18,907] a ds ?_;rw[s];refine g.bM 10 3 1 a a ?_;refine cK j a C (g.aE 4 (λd=>d<=c (cy b.2)) (λd:Nat=>[(1,R h),(2,bC.C o),(6,aD 0 0),(7,aD 1 0),(8,R e),(9,bR.C (cy b.2)),(10,.p (.R (.w 3 1 d (aC.fn (ks h ((cy b.2).take d)))))),(11,R d)]) (λd=>K8 bS k++[.w 3 1 d (aC.fn (ks h ((cy b.2).take d)))]) (λd=>c (cy b.2)-d) 0 a E a E a x ?_);intro d w;by_cases V:d<c (cy b.2)
  .have i:(cy b.2).getD (d:Int).toNat bR.I=(cy b.2).getD d []:=N;have A:cE ((cy b.2).getD d [])=m:=B _ N;have r:=aC.a0 (ks h ((cy b.2).take d)) (e9 h ((cy b.2).getD d []));rw[show(ks h ((cy b.2).take d)).length=d by grind,show ks h ((cy b.2).take d)++[e9 h ((cy b.2).getD d [])]=ks h ((cy b.2).take (d+1)) by grind[ig]]at r;refine bf j [31] a ?_ (g.ax (d+1) a ?_ ?_ ?_ ?_)
   .simp only[U,i,l,A,a7,show ef.bytes=8 from a,bA,a',a_];exact fu
   .exact PV
   .exact PV
   .grind
   omega
  have D:d=c (cy b.2):=x;rw[D,c_];have r:=cq.a0 k (oK h b);have u:c k+1=c (k++[oK h b]):=E;have J:cq.a9 (oK h b)=[O.T b.1,O.C v 1 (c (cy b.2)) (aC.fn (ks h (cy b.2)))]:=by show[O.T b.1,O.C v 1 (c (ks h (cy b.2))) (aC.fn (ks h (cy b.2)))]=_;grind
  rw[J,<-n]at r;rw[<-n]at u;refine bf j [-31] a E (g.aB ?_);refine cK j a P4 (g.ax (e+1) a E ?_ ?_ ?_)
  .simp only[U.Y,U,s,a',a_];and_intros<;>first|exact bt.same|exact r|exact u|rfl
  .grind
  omega
 obtain rfl:e=c o:=x;rw[c_];refine bf j [-18] a E (g.aB ?_);refine cK j a C (g.bh () [] ?_ (λd w=>absurd w E));simp[gU]
def pg(b a:Nat->n O):cf 0 b a=a:=by funext e;simp[cf]
abbrev jZ(a:cj):an:=.cells 27 [.c (.C v 2 (c a.1) (a2.fn a.1)),.c (.C v 2 (c a.2.1) (bi.fn a.2.1)),.c (.C v 2 (c a.2.2) (a1.fn a.2.2))]
abbrev Cd(a:cj)(b:Nat)(e:n cb)(d:Nat)(g:n eh):n an:=[jZ a,.cells 27 [cD,cD,cD],.q 105 2 b (a2.fn e),.q 129 2 d (bi.fn g),.q 109 2 (c a.2.2) (a1.fn a.2.2),.cells 27 [.S 2 (.C b 2 0 b),.S 3 (.C d 2 0 d),.S 4 (.C (c a.2.2) 2 0 (c a.2.2))]]
def Uy(b)(y:c b.1<=4000000)(s:∀u∈b.1,c u.2<=4000000)(F:c b.2.1<=4000000)(r:kx b)(D:c b.2.2<=4000000):
  Y q 81 [bV b] [] (.p (.agg [.S 0 (.C (c b.1) 2 0 (c b.1)),.S 1 (.C (c b.2.1) 2 0 (c b.2.1)),.S 2 (.C (c b.2.2) 2 0 (c b.2.2))])) [.q 105 2 (c b.1) (a2.fn b.1),.q 129 2 (c b.2.1) (bi.fn b.2.1),.q 109 2 (c b.2.2) (a1.fn b.2.2)]:=by
 refine Y.bm ba func81 rfl rfl rfl λA=>?_;refine bN [901] a C (g.region ?_);refine gu [] 5 a C (g.dJ 9 105 2 (a2.fn []) a ?_);refine g.dJ 10 129 2 (bi.fn []) a ?_;refine g.dJ 11 109 2 (a1.fn []) a ?_;refine cr a Pb (g.aE 6 (λd=>d<=c b.1) (λd:Nat=>[(1,aD 0 0),(2,aD 1 0),(3,aD 5 0),(4,R d)]) (λd=>Cd b d (b.1.take d) 0 []) (λd=>c b.1-d) 0 a E a ?_ a x ?_)
 .simp[bt,pg];rfl
 intro d l;by_cases k:d<c b.1
 .have j:b.1.getD d (0,[])∈b.1:=N;have w:b.1.getD (d:Int).toNat a2.I=b.1.getD d (0,[]):=N;have o:=s _ j;refine bN [20,2000038] a Fp (g.ax (d+1) a E ?_ ?_ ?_)
  .have aj:=a2.cT b.1 k (0,[]);exact Ol
  .grind
  omega
 obtain rfl:d=c b.1:=x;rw[c_];refine bN [-20] a E (g.aB ?_);refine cr a C (g.aE 6 (λd=>d<=c b.2.1) (λd:Nat=>[(1,aD 0 0),(2,aD 1 0),(3,aD 5 0),(5,R d)]) (λd=>Cd b (c b.1) b.1 d (b.2.1.take d)) (λd=>c b.2.1-d) 0 a E a E a x ?_);intro d l;by_cases k:d<c b.2.1
 .have j:b.2.1.getD d (0,[])∈b.2.1:=N;have w:b.2.1.getD (d:Int).toNat bi.I=b.2.1.getD d (0,[]):=N;have o:=r _ j;have aj:=bi.cT b.2.1 k (0,[]);generalize b.2.1.getD d (0,[])=h at *;refine bN [47,910] a bw ?_;rw[w];refine g.cr 6 1 168 2 (cq.fn []) a a ?_;refine cr a C (g.aE 8 (λe=>e<=c h.2) (λe:Nat=>[(1,aD 0 0),(2,aD 1 0),(3,aD 5 0),(5,R d),(6,aD 6 0),(7,R e)]) (λe=>Cd b (c b.1) b.1 d (b.2.1.take d)++[.cells 129 [.c (.int .i64 h.1),.w 7 2 e (cq.fn (h.2.take e))],.w 168 2 e (cq.fn (h.2.take e))]) (λe=>c h.2-e) 0 a E a E a x ?_);intro e n;by_cases t:e<c h.2
  .have i:h.2.getD (e:Int).toNat cq.I=h.2.getD e ([],[]):=N;have B:=o.2 (h.2.getD e ([],[])) N;have z:=cq.cT h.2 t ([],[]);refine bN [66,2000085] a Py (g.ax (e+1) a E Qq N ?_);omega
  obtain rfl:e=c h.2:=x;rw[c_];refine bN [-66] a FH (g.aB ?_);refine cr a FC (g.ax (d+1) a E FN N ?_);omega
 obtain rfl:d=c b.2.1:=x;rw[c_];refine bN [-47] a E (g.aB ?_);refine cr a C (g.bh () [2,3,4] ?_ (λe n=>absurd n E));simp
def yP{e i}(z)(j:s.op=.call {callee:=.builtin .max,args:=#[k,X],argTypes:=dn})(t:η k=R e)(q:η X=R i)(x:max e i=z)(r:a7 .i64 z):a0 T s η l (R z) l:=by refine .aW λA d y g=>?_;have b:=g k;have a:=g X;rw[t]at b;rw[q]at a;replace b:=b8 b;replace a:=b8 a;generalize h:d k=u at b;generalize n:d X=w at a;cases b;cases a;have o:(if e<i then i else e)=z:=N;exact⟨.int .i64 z,by simp[ac,j,resolve,invoke,builtin,h,n,Builtin.max_,Builtin.max2,o],.int r,by simp[ac,j,resolve,invoke,builtin,h,n,Builtin.max_,Builtin.max2]⟩
def dB(a:cj):Int:=if c a.1=0 then 1 else(a.1.getD (c a.1-1) (0,[])).1+1
def lY(b:n (Int×Int)):Int:=b.foldl (λd a=>max d (a.2+1)) 1
def dI(a:cj):Int:=if c a.2.1=0 then lY a.2.2 else max (lY a.2.2) ((a.2.1.getD (c a.2.1-1) (0,[])).1+1)
structure n5(b':cj):Prop where
 a2:∀k∈b'.1,-4000000<=k.1/\k.1<=4000000
 bc:∀k∈b'.2.1,-4000000<=k.1/\k.1<=4000000
 aP:∀k∈b'.2.2,-4000000<=k.2/\k.2<=4000000
def tc(d)(e:∀b∈d,-4000000<=b.2/\b.2<=4000000):1<=lY d/\lY d<=4000001:=by
 have:∀(d:n (Int×Int)) a,(∀b∈d,-4000000<=b.2/\b.2<=4000000)->1<=a->a<=4000001->1<=d.foldl (λa e=>max a (e.2+1)) a/\d.foldl (λa e=>max a (e.2+1)) a<=4000001:=by
  intro d;induction d with
  |nil=>grind
  |cons b h g=>
   grind
 exact this d 1 e x x
def Zc{d}(a:e<c d):lY (d.take (e+1))=max (lY (d.take e)) ((d.getD e (0,0)).2+1):=by unfold lY;grind[ig]
def mF{d:n α}(b:e<c d)(a:α):d.getD e a∈d:=N
def WR(b:cj)(i:dL b)(h:n5 b):Y q 162 [bV b] [] (.ae [.R (.c (.int .i64 (dB b))),.R (.c (.int .i64 (dI b)))]) []:=by
 refine Y.K func162 rfl λy=>?_;have t:=i.a2;have u:=i.a7;have s:=i.aP;apply g.cn [(1,aD 0 0),(4,R (dB b)),(5,R 1)] [jZ b]
 .intro dw;by_cases e:c b.1=0
  .exact bN [-10,905] a ds (dw _ _ a (by simp[dB,e]))
  have j:=h.a2 _ (mF (show c b.1-1<c b.1 by omega) (0,[]));have w:b.1.getD ((c b.1:Int)-1).toNat a2.I=b.1.getD (c b.1-1) (0,[]):=by rw[show((c b.1:Int)-1).toNat=c b.1-1 by omega];rfl
  exact bN [10,905] a wK (dw _ _ a (by simp only[U.Y,U,dB,bl e,w,a',a_]))
 refine cr a C (g.aE 1 (λd=>d<=c b.2.2) (λd:Nat=>[(1,aD 0 0),(4,R (dB b)),(5,R (lY (b.2.2.take d))),(6,R d)]) (λd=>[jZ b]) (λd=>c b.2.2-d) 0 a ?_ a ?_ a x ?_)
 .simp[lY]
 .simp
 intro d k;by_cases e:d<c b.2.2
 .have j:=h.aP _ (mF e (0,0));have n:=tc (b.2.2.take d) λr o=>h.aP r (hh o);have w:b.2.2.getD (d:Int).toNat a1.I=b.2.2.getD d (0,0):=N;have l:=Zc e;refine bN [25] a wK ?_;rw[w];refine g.aN (yP (lY (b.2.2.take (d+1))) a a a l.symm m3) a a ?_;exact cr a bJ (g.ax (d+1) a E E N x)
 obtain rfl:d=c b.2.2:=x;rw[c_];refine bN [-25] a E (g.aB ?_);have n:=tc b.2.2 h.aP;by_cases e:c b.2.1=0
 .refine bN [-40] a ds (g.ar a ?_);simp[dI,e]
 have j:=h.bc _ (mF (show c b.2.1-1<c b.2.1 by omega) (0,[]));have w:b.2.1.getD ((c b.2.1:Int)-1).toNat bi.I=b.2.1.getD (c b.2.1-1) (0,[]):=RF;refine bN [40] a wK ?_;rw[w];refine g.aN (yP (dI b) a a a (by rw[dI,bl e]) (by rw[dI,bl e];simp only[a7];omega)) a a ?_;exact cr a C (g.ar a)
abbrev Ce(a:cj)(b:Nat)(e:n cb)(d:Nat)(g:n eh):n an:=[jZ a,.cells 27 [cD,cD,cD],.w 109 2 (c a.2.2) (a1.fn a.2.2),.cells 27 [.w 4 2 b (a2.fn e),.w 5 2 d (bi.fn g),.w 2 2 (c a.2.2) (a1.fn a.2.2)],.w 105 2 b (a2.fn e),.w 129 2 d (bi.fn g)]
def qu(b)(y:c b.1<=4000000)(s:∀u∈b.1,c u.2<=4000000)(F:c b.2.1<=4000000)(r:kx b)(D:c b.2.2<=4000000):
  Y q 81 [bV b] [] (.p (.agg [.w 0 2 (c b.1) (a2.fn b.1),.w 1 2 (c b.2.1) (bi.fn b.2.1),.w 2 2 (c b.2.2) (a1.fn b.2.2)])) [.w 105 2 (c b.1) (a2.fn b.1),.w 129 2 (c b.2.1) (bi.fn b.2.1),.w 109 2 (c b.2.2) (a1.fn b.2.2)]:=by
 refine Y.bm ba func81 rfl rfl rfl λA=>?_;refine bN [902] a ?_ ?_
 .simp only[U,show td.bytes=16 from a,a',a_,lH];grind
 refine g.cr 3 0 105 2 (a2.fn []) a a ?_;refine g.cr 3 1 129 2 (bi.fn []) a a ?_;refine cr a C (g.aE 6 (λd=>d<=c b.1) (λd:Nat=>[(1,aD 0 0),(2,aD 1 0),(3,aD 3 0),(4,R d)]) (λd=>Ce b d (b.1.take d) 0 []) (λd=>c b.1-d) 0 a E a ?_ a x ?_)
 .simp[bt,pg]
 intro d l;by_cases k:d<c b.1
 .have j:b.1.getD d (0,[])∈b.1:=N;have w:b.1.getD (d:Int).toNat a2.I=b.1.getD d (0,[]):=N;have o:=s _ j;refine bN [20,2000038] a Fp (g.ax (d+1) a E ?_ ?_ ?_)
  .have aj:=a2.cT b.1 k (0,[]);simp only[U.Y,U,w,pg,cV,a_,a'];exact QY
  .grind
  omega
 obtain rfl:d=c b.1:=x;rw[c_];refine bN [-20] a E (g.aB ?_);refine cr a C (g.aE 6 (λd=>d<=c b.2.1) (λd:Nat=>[(1,aD 0 0),(2,aD 1 0),(3,aD 3 0),(5,R d)]) (λd=>Ce b (c b.1) b.1 d (b.2.1.take d)) (λd=>c b.2.1-d) 0 a E a E a x ?_);intro d l;by_cases k:d<c b.2.1
 .have j:b.2.1.getD d (0,[])∈b.2.1:=N;have w:b.2.1.getD (d:Int).toNat bi.I=b.2.1.getD d (0,[]):=N;have o:=r _ j;have aj:=bi.cT b.2.1 k (0,[]);generalize b.2.1.getD d (0,[])=h at *;refine bN [47,910] a bw ?_;rw[w];refine g.cr 6 1 168 2 (cq.fn []) a a ?_;refine cr a C (g.aE 8 (λe=>e<=c h.2) (λe:Nat=>[(1,aD 0 0),(2,aD 1 0),(3,aD 3 0),(5,R d),(6,aD 6 0),(7,R e)]) (λe=>Ce b (c b.1) b.1 d (b.2.1.take d)++[.cells 129 [.c (.int .i64 h.1),.w 7 2 e (cq.fn (h.2.take e))],.w 168 2 e (cq.fn (h.2.take e))]) (λe=>c h.2-e) 0 a E a E a x ?_);intro e n;by_cases t:e<c h.2
  .have i:h.2.getD (e:Int).toNat cq.I=h.2.getD e ([],[]):=N;have B:=o.2 (h.2.getD e ([],[])) N;have z:=cq.cT h.2 t ([],[]);refine bN [66,2000085] a Py (g.ax (e+1) a E Qq N ?_);omega
  obtain rfl:e=c h.2:=x;rw[c_];refine bN [-66] a FH (g.aB ?_);refine cr a FC (g.ax (d+1) a E ?_ ?_ ?_)
  .simp only[U.Y,U,a_,a'];exact QY
  .grind
  omega
 obtain rfl:d=c b.2.1:=x;rw[c_];refine bN [-47] a E (g.aB ?_);refine cr a C (g.bh () [4,5,2] ?_ (λe n=>absurd n E));simp
def _root_.Go.AM.c0.ho(a:c0 α)(d)(g:bt j V (a.fn d))(k:j<=c d):a.af j V=d.take j:=by
 apply rx
 .simp[c0.af];omega
 intro e h i;have b:e<j:=N;simp[c0.af,g e b,c0.fn,gv,al,bG (show e<c d by omega),a.inv]
def _root_.Go.AM.c0.g_(a:c0 α)(d)(g:bt j V (a.fn d)):a.bT j V:=λe b=>by rw[g e b];exact a.U d e (Nat.lt_succ_self e)
def abf(a b:Nat):min (a:Int) (b:Int)=((min a b:Nat):Int):=N
def iA(d:Int):Nat->Int->n bB->n cb
 |0,_,_=>[]
 |e+1,b,a=>if 0<c a then kV b d (a.take 4)::iA d e (b+1) (a.drop 4)else[]
def pB(a:Int)(b:cj)(d:n cZ):n cb:=iA a (c (gw a d (e7 b.1))) (dB b) (gw a d (e7 b.1))
def fO(b:Int)(a:cj)(d:n cZ):Bool:=decide (20<c a.1+c (pB b a d))||(decide (99<dB a+c (pB b a d)-1)||(decide (20<dI a)||decide (9<=c a.2.2)))
def hV(d:Int)(a:cj)(b:Int)(e:n cZ):cj:=(a.1++pB d a e,a.2.1++[gU (dI a) d e],a.2.2++[(b,dI a)])
theorem Lm(h):∀d a b,c (iA h d a b)<=d
 |0,_,_=>bE _
 |d+1,a,b=>by
  simp[iA];split
  .have:=Lm h d (a+1) (b.drop 4);grind
  simp
abbrev Hu:bK:=kj c1 c1 (e2 bR) (λd b a=>fD (kV d b a)) λ_ b a=>[cB b=m,∀e∈a,cE e=m,c a<=4000000]
def aes:bM q 165 Hu:=.c5 λb e d a=>Wz b e d a.1 a.2.1 a.2.2
abbrev Hx:bK:=kj c1 c1 (e2 bC) (λb a d=>iO (gU b a d)) λ_ a d=>[cB a=m,rm d]
def aev:bM q 166 Hx:=.c5 λa d e b=>WW a d e b.1 b.2
abbrev Hw:bK:=kj c1 (e2 bC) (e2 e3) (λa d b=>bR.C (gw a d b)) λa d b=>[cB a=m,rm d,c b<=4000000]
def aeu:bM q 163 Hw:=.c5 λb e d a=>WP b e d a.1 a.2.1 a.2.2
def wa{o}{d}(i:rm o):(∀a∈gw h o d,cE a=m)/\c (gw h o d)<=100000:=by
 constructor
 .have:∀(b g:n bB),(∀a∈b,cE a=m)->(∀a∈g,cE a=m)->∀a∈b.foldl (fh h d) g,cE a=m:=by
   intro b;induction b with
   |nil=>grind
   |cons s t k=>
    intro g r q;refine k _ (λa e=>r a (nf _ e)) λa e=>?_;unfold fh at e;grind
  refine this _ [] (λa e=>?_) E;obtain⟨l,j,e⟩:=List.mem_flatMap.1 e;exact vS (i.fq l j).1 a e
 have:=C9 h d (eP o) [];have q:=i.all;unfold gw;simp[gC]at this;exact fM this x
theorem Kj{d}(a:c (dT d)<=100000):c (e7 d)<=100000:=by unfold e7;grind[C_]
abbrev acM(e b d:Int)(g:cj)(h:n cZ)(a:n bB):bI:=[(0,R e),(2,R b),(3,bC.C h),(5,aD 0 0),(8,aD 1 0),(10,aD 5 0),(11,R d),(12,R (dI g)),(13,bR.C a)]
abbrev Mj(b:cj)(a:n cb):n an:=[jZ b,.cells 27 [cD,cD,cD],.w 105 2 (c a) (a2.fn a),.w 129 2 (c b.2.1) (bi.fn b.2.1),.w 109 2 (c b.2.2) (a1.fn b.2.2),.cells 27 [.w 2 2 (c a) (a2.fn a),.w 3 2 (c b.2.1) (bi.fn b.2.1),.w 4 2 (c b.2.2) (a1.fn b.2.2)]]
abbrev M_(a:cj)(b:Bool):y:=.ae [.agg [.c (.C v 2 (c a.1) (a2.fn a.1)),.c (.C v 2 (c a.2.1) (bi.fn a.2.1)),.c (.C v 2 (c a.2.2) (a1.fn a.2.2))],.R (.c (.bool b))]
def Xs(h)(b)(j)(o)(A:cB h=m)(w:dL b)(I:n5 b)(K:rm o)(ak:c (dT b.1)<=100000):
  Y q 133 [R h,bV b,R j,bC.C o] [] (M_ (if fO h b o=m then b else hV h b j o) (!fO h b o)) []:=by
 refine Y.bB func133 rfl rfl rfl λau=>?_;have r:a9 q [(164,Hk),(163,Hw),(165,Hu),(166,Hx)]:=.cons aei (.cons aeu (.cons aes (.cons aev .nil)));have aP:=w.a2;have P:=w.a7;have av:=w.aP;have ax:=Kj ak;refine cK r a C (g.aC (qu b w.a2 w.bu w.a7 w.bx w.aP) [] a (cK r a C (g.aC (WR b w I) [] a (cK r a bJ ?_))));simp[a2.m,e3.m,bC.m];obtain⟨an,az⟩:=wa (h:=h) (d:=e7 b.1) K;have aw:pB h b o=iA h (c (gw h o (e7 b.1))) (dB b) (gw h o (e7 b.1)):=rfl;generalize gw h o (e7 b.1)=B at *;generalize T:pB h b o=e at *;have L:-4000000<=dB b/\dB b<=4000001:=by
  unfold dB;split
  .omega
  rename_i t;exact Rf
 have H:c e<=100000:=by grind[Lm]
 refine g.cq (S2:=Unit) 0 a a (λ_=>True) (λ_=>[(0,R h),(2,R j),(3,bC.C o),(5,aD 0 0),(8,aD 1 0),(10,aD 5 0),(11,R (dB b+c e)),(12,R (dI b))]) (λ_=>Mj b (b.1++e)) 6
  (λk:n bB×n cb=>(∀S∈k.1,cE S=m)/\c k.2+c k.1<=5000000/\c b.1<=c k.2/\∃l,c k.1<=l/\b.1++e=k.2++iA h l (dB b+(c k.2-c b.1:Nat)) k.1) (λk=>acM h j (dB b+(c k.2-c b.1:Nat)) b o k.1) (λk=>Mj b k.2) (λk=>c k.1) (B,b.1) a ?_ a ?_ a ⟨an,by grind,bE _,c B,bE _,by grind⟩ ?_ ?_
 .simp
 .simp
 .rintro dw ⟨bs,ab⟩ ⟨u,Q,ae,l,G,z⟩;simp only at u Q ae G z;by_cases t:0<c bs
  .obtain⟨l,rfl⟩:∃Z,l=Z+1:=⟨l-1,by omega⟩
   simp[iA,br t]at z;have ad:a7 .i64 ((min (c bs) 4:Nat):Int):=m3;refine bf r [30] a bw (g.aN (yR ((min (c bs) 4:Nat):Int) a a a (abf (c bs) 4) ad) a a ?_);have M:bR.af (bU (c bs) (f ((min (c bs) 4:Nat):Int))-bU 0 p) (fA (bU 0 p) (bR.fn bs))=bs.take 4:=by have E:bU (c bs) (f ((min (c bs) 4:Nat):Int))-bU 0 p=min (c bs) 4:=wQ;rw[E,bR.ho bs (λJ s=>by simp[fA,bU]) x];grind
   have X:bR.bT (bU (c bs) (f ((min (c bs) 4:Nat):Int))-bU 0 p) (fA (bU 0 p) (bR.fn bs)):=bR.g_ bs (λJ s=>by simp[fA,bU]);have ao:bt (c bs-min (c bs) 4) (fA (min (c bs) 4) (bR.fn bs)) (bR.fn (bs.drop 4)):=by intro J s;have V:min (c bs) 4=4:=x;rw[V];simp[fA,c0.fn,gv,al,qb]
   have aq:∀S∈bs.take 4,cE S=m:=λS D=>u S (hh D);have aa:=a2.a0 ab (kV (dB b+(c ab-c b.1:Nat)) h (bs.take 4));refine cK r a ?_ (g.ax (bs.drop 4,ab++[kV (dB b+(c ab-c b.1:Nat)) h (bs.take 4)]) a ?_ ?_ ?_ ?_)
   .simp only[U,a7,M,A,X,List.length_take,show nB.bytes=32 from a,a',a_];and_intros<;>first|omega|omega
   .simp only[U.Y,U,dm,fp,gC,sA,bU,c5,a',a_];and_intros<;>first|rfl|omega|simp|exact ao
   .simp only[U.Y,U,M,dm,fp,gC,a',a_];and_intros<;>first|rfl|exactλ_ _=>rfl|exact aa|omega
   .refine⟨λS D=>u S (sz D),by grind,by grind,l,by grind,?_⟩;grind
   grind
  have F:ab=b.1++e:=by rw[z];cases l<;>simp[iA,t]
  refine bf r [-30] a bJ (g.aB ?_);refine dw () C a ?_ a ?_
  .simp only[U.Y,U,F,dm,a',a_];and_intros<;>first|rfl|omega|simp
  simp[F]
 rintro⟨⟩ -;have y:fO h b o=(decide (20<c b.1+c e)||(decide (99<dB b+c e-1)||(decide (20<dI b)||decide (9<=c b.2.2)))):=by unfold fO;rw[T]
 have O:-4000000<=dI b/\dI b<=4000001:=by
  have:=tc b.2.2 I.aP;unfold dI;split
  .omega
  rename_i t;exact OY
 have ar:c (b.1++e)=c b.1+c e:=dm;by_cases ag:20<c b.1+c e
 .have i:fO h b o=m:=N;rw[i];exact bf r [53] a bw z6
 by_cases ah:99<dB b+c e-1
 .have i:fO h b o=m:=N;rw[i];exact bf r [-53,57] a Fs z6
 by_cases ai:20<dI b
 .have i:fO h b o=m:=N;rw[i];exact bf r [-53,-57,61] a Fs z6
 by_cases aj:9<=c b.2.2
 .have i:fO h b o=m:=N;rw[i];exact bf r [-53,-57,-61,67] a Fs z6
 have i:fO h b o=v:=N;rw[i];have E:=bi.a0 b.2.1 (gU (dI b) h o);have W:=a1.a0 b.2.2 (j,dI b);refine bf r [-53,-57,-61,-67] a ?_ ?_
 .simp only[U,A,bC.m,dm,a7,show rP.bytes=32 from a,show td.bytes=16 from a,bA,dv,a',a_];and_intros<;>first|exact K|exact bC.U _|rfl|omega
 refine g.freeze 8 1 a a a ?_;refine g.cb ba [] a ?_ a a a ft;simp[U.Y,U,bC.m,hV,T,dm,fp,gC,a',a_];and_intros<;>first|rfl|exactλ_ _=>rfl|exact E|exact W|simp
def tt(a:Int×Int):Bool:=decide (0<=a.1/\a.1<=9)&&decide (0<=a.2)
abbrev oI(b:dG)(a:Nat):Int×Int:=b.2.2.2.1.getD a (0,0)
abbrev ox(b:dG)(a:Nat):Int:=b.2.2.2.2.getD a 0
def q4(b:dG)(a:Nat):Bool:=tt (oI b a)&&decide (0<=ox b a/\ox b a<=2)
def fa(a:dG):Bool:=decide (c a.2.2.2.1=2)&&decide (c a.2.2.2.2=2)&&(aB 2).all (q4 a)&&hd a.1 a.2.1
def WF(z):Y q 28 [p'.a9 z] [] (bh (tt z)) []:=by
 refine Y.K func28 rfl λe=>?_;have d:a9 q [(29,jM)]:=.cons kA .nil;by_cases b:0<=z.1/\z.1<=9
 .exact a8 d [6] a (by simp[b]) (g.ar a (by simp[tt,b]))
 exact a8 d [-6] a bW (g.ar a (by simp only[U,tt,k9 b];simp))
def Jy(d)(w:p8 d.2.1.1):Y q 9 [ep d] [] (bh (fa d)) []:=by
 refine Y.K func9 rfl λy=>?_;have e:a9 q [(28,da p' (λk=>bh (tt k)) λ_=>[]),(29,jM),(30,BU)]:=.cons (.bd λk _=>WF k) (.cons kA (.cons Nb .nil));unfold fa;by_cases t:c d.2.2.2.1=2
 rotate_left
 .exact a8 e [8,13] a bW (g.ar a (by simp[k9 t]))
 by_cases o:c d.2.2.2.2=2
 rotate_left
 .exact a8 e [-8,13] a bW (g.ar a (by simp[k9 o]))
 refine a8 e [-8,-13] a bW ?_;rw[ff t,ff o,fs,fs];refine g.aE 1 (λb=>b<=2/\∀r,r<b->q4 d r=m) (λb:Nat=>[(1,aD 0 0),(3,R b)]) (λ_=>[.cells 35 (hY d)]) (λb=>2-b) 0 a E a E a ⟨by omega,by omega⟩ ?_;rintro b ⟨u,l⟩;by_cases j:b<2
 .have i:d.2.2.2.1.getD b a1.I=oI d b:=rfl;have n:d.2.2.2.2.getD b aC.I=ox d b:=rfl;cases h:tt (oI d b)with
  |false=>
   refine a8 e [15,25,33] a ?_ (g.aX (bX.zero a ?_))
   .simp[-al,i,h];omega
   rw[kK j (by rw[q4,h];rfl)];simp
  |true=>
   by_cases s:0<=ox d b/\ox d b<=2
   .refine a8 e [15,-25,-33] a ?_ (g.ax (b+1) a E E ⟨j,iJ l (by rw[q4,h,ff s];rfl)⟩ x);simp[-al,i,n,h,a7];omega
   refine a8 e [15,-25,33] a ?_ (g.aX (bX.zero a ?_))
   .simp[-al,i,n,h];omega
   rw[kK j (by rw[q4,k9 s,Bool.and_false])];simp
 obtain rfl:b=2:=x;rw[f'.2 l,fs];refine a8 e [-15] a E (g.aB ?_);refine b_ e a ?_ (g.ar a ?_)
 .simp[a2.m,a2.U,bi.m,bi.U,a1.m,a1.U,aC.m,aC.U,w]
 exact Ab
abbrev xV(a:cj)(e:Nat)(d:Nat->n O)(g:Nat)(j:n eh)(b:fl)(i:Nat)(h:n Z):n an:=[jZ a,.cells 27 [cD,cD,cD],.q 105 2 e d,.q 129 2 g (bi.fn j),.q 109 2 (c a.2.2) (a1.fn a.2.2),.cells 27 [.S 2 (.C e 2 0 e),.S 3 (.C g 2 0 g),.S 4 (.C (c a.2.2) 2 0 (c a.2.2))],.J (cm 153 2 b i h)]
def UA(b)(i0)(V:i0<c b.1)(z:0<(b.1.getD i0 (0,[])).2.length)(y:c b.1<=4000000)(K:∀u∈b.1,c u.2<=4000000)(H:c b.2.1<=4000000)(S:kx b)(G:c b.2.2<=4000000):
  bk (ι:=p6 (b.1.getD i0 (0,[])).2) q 81 [bV b] [] (λ_=>.p (.agg [.S 0 (.C (c b.1) 2 0 (c b.1)),.S 1 (.C (c b.2.1) 2 0 (c b.2.1)),.S 2 (.C (c b.2.2) 2 0 (c b.2.2))]))
   (λj=>[.q 105 2 (c b.1) (gf b.1 i0 (cY j.1.1 (b.1.getD i0 (0,[])).2.length)),.q 129 2 (c b.2.1) (bi.fn b.2.1),.q 109 2 (c b.2.2) (a1.fn b.2.2),tx (b.1.getD i0 (0,[])).2 j]):=by
 refine bk.bB ba func81 rfl rfl rfl λW=>?_;refine bN [901] a C (g.region ?_);refine gu [] 5 a C (g.dJ 9 105 2 (a2.fn []) a ?_);refine g.dJ 10 129 2 (bi.fn []) a ?_;refine g.dJ 11 109 2 (a1.fn []) a ?_;refine bN [902] a Pb (g.fj 153 2 ?_);refine cr a C (g.aE 7 (I3 b.1 i0) (λi:S3=>[(1,aD 0 0),(2,aD 1 0),(3,aD 5 0),(4,R i.1)]) (λi=>xV b i.1 (gf b.1 i0 (nP i)) 0 [] i.2.1 i.2.2.1 i.2.2.2) (λi=>c b.1-i.1) (0,.nil p,0,[]) a E a ?_ a ⟨by omega,.inl ⟨by omega,a⟩⟩ ?_)
 .simp[bt,pg];rfl
 rintro⟨d,h,o,k⟩ ⟨s,A⟩;simp only at s A;by_cases n:d<c b.1
 .have aa:b.1.getD d (0,[])∈b.1:=N;have w:b.1.getD (d:Int).toNat a2.I=b.1.getD d (0,[]):=N;have j:=K _ aa;by_cases t:d=i0
  .subst t;have F:o=0:=by rcases A with⟨_,Q⟩|⟨O,_⟩<;>omega
   rw[<-w]at z j;refine a6 [20,905] a bw ?_;refine g.eI (ι:=p6 (b.1.getD (d:Int).toNat a2.I).2) b5 15 18 8 (λr=>ay r 14)
    (λr=>[aD 5 0,cz 2 (.C d 2 0 d),aD 0 0,a2.C b.1,R d,iv [.int .i64 (b.1.getD (d:Int).toNat a2.I).1,lw (b.1.getD (d:Int).toNat a2.I)],iv [.int .i64 (b.1.getD (d:Int).toNat a2.I).1,lw (b.1.getD (d:Int).toNat a2.I)],R (b.1.getD (d:Int).toNat a2.I).1,
     aw (.C m 2 0 (λe=>[].getD e [])),aD 0 0,a2.C b.1,R d,iv [.int .i64 (b.1.getD (d:Int).toNat a2.I).1,lw (b.1.getD (d:Int).toNat a2.I)],iv [lw (b.1.getD (d:Int).toNat a2.I)],aw (lw (b.1.getD (d:Int).toNat a2.I))].getD r .any)
    (λj r=>[aw (r3 _ j),.p (.agg [.c (.int .i64 (b.1.getD (d:Int).toNat a2.I).1),.c (r3 _ j)]),aw (.C m 2 1 (λe=>[[.int .i64 (b.1.getD (d:Int).toNat a2.I).1,r3 _ j]].getD e []))].getD (r-15) .any)
    (λj=>xV b d (gf b.1 d (cY h o)) 0 [] h o k++[tx _ j])
    rfl rfl rfl rfl rfl rfl rfl (λr n=>by have:=fe n;omega) rfl
    ⟨aJ.x,aJ.x,aJ.x,aJ.x,aJ.x,aJ.eval (bg:=[]) ba a9.nil a ?_,aJ.x,aJ.x,aJ.x,aJ.x,aJ.x,aJ.x,aJ.eval (bg:=[]) ba a9.nil a ?_,aJ.x,aJ.x,C,C,C,C,C,C,C⟩
    (λj=>⟨aJ.x,aJ.x,aJ.x,aJ.x,aJ.x,aJ.eval (bg:=[]) ba a9.nil a ?_,aJ.x,aJ.x,aJ.x,aJ.x,aJ.x,aJ.x,aJ.eval (bg:=[]) ba a9.nil a ?_,aJ.x,aJ.x,C,aJ.x,aJ.x,C⟩)
    (dx.ff a (eC.fF (GG a) a a a z Af (Hm _ _))) ?_
   .exact bw
   .exact bw
   .exact bw
   .exact bw
   rw[w];rw[w]at z j;generalize J:b.1.getD d (0,[])=u at *;intro B;refine a6 [904] a Oq (g.swap 6 7 b9 a a (λ_ _ n=>n.1) (λ_ _ n=>n.1) ?_);refine aZ a bJ (g.ax (d+1,B.1.1,c u.2,B.1.2) a E ?_ ?_ ?_)
   .have aj:=LA (ab:=b.1) (i0:=d) (bz:=cY B.1.1 (c u.2)) (E2:=cY h o);rw[J]at aj;exact FN
   .refine⟨by grind,.inr ⟨by grind,?_⟩⟩;grind
   grind
  refine bN [20,2000038] a Fp (g.ax (d+1,h,o,k) a E ?_ ?_ ?_)
  .have aj:=Lz (ab:=b.1) (bz:=cY h o) t;exact Ol
  .refine⟨by grind,?_⟩;grind
  grind
 obtain rfl:d=c b.1:=x;obtain⟨_,F,M⟩:i0<c b.1/\o=(b.1.getD i0 (0,[])).2.length/\ek 2 (b.1.getD i0 (0,[])).2.length (bH.fn (b.1.getD i0 (0,[])).2) k:=N;subst F;clear A;generalize b.1.getD i0 (0,[])=l at *;refine bN [-20] a E (g.aB ?_);refine cr a C (g.aE 7 (λd=>d<=c b.2.1) (λd:Nat=>[(1,aD 0 0),(2,aD 1 0),(3,aD 5 0),(5,R d)]) (λd=>xV b (c b.1) (gf b.1 i0 (cY h (c l.2))) d (b.2.1.take d) h (c l.2) k) (λd=>c b.2.1-d) 0 a E a E a x ?_);intro d s;by_cases n:d<c b.2.1
 .have aa:b.2.1.getD d (0,[])∈b.2.1:=N;have w:b.2.1.getD (d:Int).toNat bi.I=b.2.1.getD d (0,[]):=N;have j:=S _ aa;have aj:=bi.cT b.2.1 n (0,[]);generalize b.2.1.getD d (0,[])=i at *;refine bN [47,910] a bw ?_;rw[w];refine g.cr 7 1 168 2 (cq.fn []) a a ?_;refine cr a C (g.aE 9 (λe=>e<=c i.2) (λe:Nat=>[(1,aD 0 0),(2,aD 1 0),(3,aD 5 0),(5,R d),(6,aD 7 0),(7,R e)]) (λe=>xV b (c b.1) (gf b.1 i0 (cY h (c l.2))) d (b.2.1.take d) h (c l.2) k++[.cells 129 [.c (.int .i64 i.1),.w 8 2 e (cq.fn (i.2.take e))],.w 168 2 e (cq.fn (i.2.take e))]) (λe=>c i.2-e) 0 a E a E a x ?_);intro e I;by_cases t:e<c i.2
  .have D:i.2.getD (e:Int).toNat cq.I=i.2.getD e ([],[]):=N;have X:=j.2 (i.2.getD e ([],[])) N;have T:=cq.cT i.2 t ([],[]);refine bN [66,2000085] a ?_ (g.ax (e+1) a ?_ ?_ ?_ ?_)
   .simp only[U,w,D,a7,show yC.bytes=40 from a,show ef.bytes=8 from a,bA,lH,a',a_];exact fu
   .simp
   .simp only[U.Y,U,w,D,pg,cV,a_,a'];and_intros<;>first|exactλ_ _=>rfl|exact T|rfl
   .grind
   omega
  obtain rfl:e=c i.2:=x;rw[c_];refine bN [-66] a FH (g.aB ?_);refine cr a FC (g.ax (d+1) a E FN N ?_);omega
 obtain rfl:d=c b.2.1:=x;rw[c_];refine bN [-47] a E (g.aB ?_);refine cr a C (g.bh ⟨(h,k),M⟩ [2,3,4,6] ?_ (λe I=>absurd I E));simp
def T8(b:cj)(d:Int)(j:c b.2.2<=4000000)(k:d<0∨d>c b.2.2):Y q 135 [bV b,R d] [] (bV b) []:=by refine Y.bm ba func135 rfl rfl rfl λi=>?_;have h:a9 q [(29,jM)]:=.cons kA .nil;refine bf h [15] a bW ?_;refine g.bh () [] ?_ (λl e=>absurd e E);simp
abbrev mJ(a:Nat)(d:cj)(b:n eh):n eh:=b.filter λe=>!jr a d.2.2 e
abbrev tb(d:Nat)(e:cj)(b:Nat)(g:eh):Bool:=((e.2.2.drop d).take b).any λa=>a.2==g.1
abbrev GW(b:cj)(d:Nat)(a:n eh):n an:=[.cells 27 [.c (tK b.1),.c (tL b.2.1),.c (hU (b.2.2.take d))],.cells 27 [cD,cD,cD],.w 129 2 (c a) (bi.fn a)]
def JG(a:α->Bool){d}(g:e<c d)(b):(d.take (e+1)).filter a=(d.take e).filter a++(if a (d.getD e b)then[d.getD e b]else[]):=ih
def Sw(a:α->Bool){d}(g:e<c d)(b):(d.take (e+1)).any a=((d.take e).any a||a (d.getD e b)):=ih
def T9(b)(j)(S:j<=c b.2.2)(Q:c b.2.1<=4000000)(B:∀l∈b.2.1,-4000000<=l.1/\l.1<=4000000)(O:c b.2.2<=4000000):Y q 135 [bV b,R j] [] (bV (b.1,mJ j b b.2.1,b.2.2.take j)) []:=by
 refine Y.bm ba func135 rfl rfl rfl λM=>?_;have n:a9 q [(29,jM)]:=.cons kA .nil;refine a8 n [-15,906] a ?_ ?_
 .simp[ji];omega
 refine g.bM 6 129 2 a a ?_;refine b_ n a C (g.aE 3 (λe=>e<=c b.2.1) (λe:Nat=>[(2,aD 0 0),(4,aD 1 0),(5,a1.C (b.2.2.drop j)),(6,.p (.R (.w 2 2 (c (mJ j b (b.2.1.take e))) (bi.fn (mJ j b (b.2.1.take e)))))),(7,R e)]) (λe=>GW b j (mJ j b (b.2.1.take e))) (λe=>c b.2.1-e) 0 a ?_ a ?_ a x ?_)
 .have w:=a1.hc b.2.2 j (c b.2.2-j);simp[bU];exact w
 .simp[bU];exact⟨by omega,λe t=>by have A:e<j:=t;simp[fA,bU,c0.fn,gv,al,iq,A]⟩
 intro e t;by_cases u:e<c b.2.1
 .have F:b.2.1.getD e (0,[])∈b.2.1:=N;have r:b.2.1.getD (e:Int).toNat bi.I=b.2.1.getD e (0,[]):=N;have J:=B _ F;have w:=bi.cT b.2.1 u (0,[]);have y:mJ j b (b.2.1.take (e+1))=mJ j b (b.2.1.take e)++(if !jr j b.2.2 (b.2.1.getD e (0,[]))then[b.2.1.getD e (0,[])]else[]):=JG (λl=>!jr j b.2.2 l) u (0,[]);have K:c (mJ j b (b.2.1.take e))<=e:=fM (kI _ _) N;generalize mJ j b (b.2.1.take e)=k at *;generalize b.2.1.getD e (0,[])=l at *;refine bf n [31] a ?_ ?_
  .simp only[U,r,bA,lH,a',a_];grind
  refine g.aE 3 (λh=>h<=c (b.2.2.drop j)) (λh:Nat=>[(2,aD 0 0),(4,aD 1 0),(5,a1.C (b.2.2.drop j)),(6,.p (.R (.w 2 2 (c k) (bi.fn k)))),(7,R e),(8,bh (tb j b h l)),(9,R h)]) (λh=>GW b j k) (λh=>c (b.2.2.drop j)-h) 0 a E a E a x ?_;intro h z;have I:=sA (i:=j) (l:=b.2.2);by_cases D:h<c (b.2.2.drop j)
  .have i:(b.2.2.drop j).getD (h:Int).toNat a1.I=(b.2.2.drop j).getD h (0,0):=N;have o:tb j b (h+1) l=(tb j b h l||((b.2.2.drop j).getD h (0,0)).2==l.1):=Sw (λu:Int×Int=>u.2==l.1) D (0,0);cases s:tb j b h l with
   |true=>
    refine bf n [37] a Pr (g.ax (h+1) a ?_ ?_ ?_ ?_)
    .rw[s]at o;simp[o]
    .simp
    .grind
    omega
   |false=>
    refine bf n [37] a Pr (g.ax (h+1) a ?_ ?_ ?_ ?_)
    .rw[s]at o;simp only[U.Y,U,bt.same,o,r,i,a',a_,Bool.false_or];rfl
    .simp
    .grind
    omega
  obtain rfl:h=c (b.2.2.drop j):=x;have o:tb j b (c (b.2.2.drop j)) l=jr j b.2.2 l:=by unfold tb jr;grind
  rw[o];cases s:jr j b.2.2 l with
  |true=>
   rw[s]at y;refine bf n [-37] a E (g.aB ?_);refine cK n a ua (g.ax (e+1) a ?_ ?_ ?_ ?_)
   .have:mJ j b (b.2.1.take (e+1))=k:=N;rw[this];exact Qa
   .rw[show mJ j b (b.2.1.take (e+1))=k by grind];simp
   .grind
   omega
  |false=>
   rw[s]at y;refine bf n [-37] a E (g.aB ?_);refine cK n a ?_ (g.ax (e+1) a ?_ ?_ ?_ ?_)
   .simp only[U,a7,show rP.bytes=32 from a,a',a_];exact fu
   .rw[show mJ j b (b.2.1.take (e+1))=k++[l] by grind];simp only[U.Y,U,r,bt.same,a',a_,dm,gW];exact⟨bi.a0 k l,a⟩
   .rw[show mJ j b (b.2.1.take (e+1))=k++[l] by grind];simp only[U.Y,U,r,bt.same,a',a_,dm,gW];exact bi.a0 k l
   .grind
   omega
 obtain rfl:e=c b.2.1:=x;rw[c_];refine bf n [-31] a E (g.aB ?_);refine cK n a C (g.bh () [] ?_ (λh z=>absurd z E));simp
def XC(b)(d)(e:dL b)(k:d.1≠1)(h:d.1≠2)(l:d.1≠3)(j:d.1≠4):Y q 80 [bV b,eo d] [] (bV b) []:=by
 refine Y.bm ba func80 rfl rfl rfl λn=>?_;refine aZ a C (g.aC (qu b e.a2 e.bu e.a7 e.bx e.aP) [] a (a6 [-13,-42,-48,-91] a ?_ ?_))
 .simp[k,h,l,j]
 exact zZ
def Jn(b)(d)(az)(e:dL b)(h:d.1=2)(j:Y q 135 [bV b,R d.2.1] [] (bV az) []):Y q 80 [bV b,eo d] [] (bV az) []:=by
 refine Y.bm ba func80 rfl rfl rfl λk=>?_;refine aZ a C (g.aC (qu b e.a2 e.bu e.a7 e.bx e.aP) [] a (a6 [-13,42] a ?_ ?_))
 .simp[h]
 refine g.b0 j.tocF [] a a a a E a a a bm a bm a ?_;rintro -;exact aZ a C zZ
abbrev nD(a:Int)(b:n cb):n cb:=b.filter λd=>!(d.1==a)
abbrev ac2(a:cj)(d:dO)(b:n cb):n an:=[jZ a,.cells 32 (vz d),.cells 27 [cD,cD,cD],.w 105 2 (c a.1) (a2.fn a.1),.w 129 2 (c a.2.1) (bi.fn a.2.1),.w 109 2 (c a.2.2) (a1.fn a.2.2),
 .cells 27 [.w 3 2 (c a.1) (a2.fn a.1),.w 4 2 (c a.2.1) (bi.fn a.2.1),.w 5 2 (c a.2.2) (a1.fn a.2.2)],.w 105 2 (c b) (a2.fn b)]
def Xw(b)(d)(k:dL b)(t:d.1=1):Y q 80 [bV b,eo d] [] (bV (b.1.filter λi=>!(i.1==d.2.1),b.2.1,b.2.2)) []:=by
 refine Y.bm ba func80 rfl rfl rfl λz=>?_;refine aZ a C (g.aC (qu b k.a2 k.bu k.a7 k.bx k.aP) [] a (a6 [13,905] a ?_ ?_))
 .simp[t]
 refine g.bM 6 105 2 a a ?_;refine aZ a C ?_;have u:=k.a2;refine g.aE 8 (λe=>e<=c b.1) (λe:Nat=>[(3,aD 1 0),(4,aD 2 0),(5,aD 6 0),(6,.p (.R (.w 7 2 (c (nD d.2.1 (b.1.take e))) (a2.fn (nD d.2.1 (b.1.take e)))))),(7,R e)]) (λe=>ac2 b d (nD d.2.1 (b.1.take e))) (λe=>c b.1-e) 0 a E a E a x ?_;intro e s;by_cases o:e<c b.1
 .have r:b.1.getD (e:Int).toNat a2.I=b.1.getD e (0,[]):=by rw[c5];rfl
  have j:nD d.2.1 (b.1.take (e+1))=nD d.2.1 (b.1.take e)++(if !((b.1.getD e (0,[])).1==d.2.1)then[b.1.getD e (0,[])]else[]):=JG (λi:cb=>!(i.1==d.2.1)) o (0,[]);have y:c (nD d.2.1 (b.1.take e))<=e:=fM (kI _ _) bW;generalize nD d.2.1 (b.1.take e)=h at *;generalize b.1.getD e (0,[])=i at *;cases l:i.1==d.2.1 with
  |true=>
   rw[l]at j;refine bN [20,-31] a ?_ (g.ax (e+1) a ?_ ?_ ?_ ?_)
   .simp only[U,r,a7,bA,dv,lH,a',a_];and_intros<;>first|omega|simp[bne,l]
   .rw[show nD d.2.1 (b.1.take (e+1))=h by simpa using j];exact Qa
   .rw[show nD d.2.1 (b.1.take (e+1))=h by simpa using j];simp
   .exact sk
   omega
  |false=>
   rw[l]at j;refine bN [20,31] a ?_ (g.ax (e+1) a ?_ ?_ ?_ ?_)
   .simp only[U,r,a7,show nB.bytes=32 from a,bA,dv,lH,a',a_];and_intros<;>first|omega|simp[bne,l]
   .rw[show nD d.2.1 (b.1.take (e+1))=h++[i] by simpa using j];simp only[U.Y,U,r,bt.same,a',a_,dm,gW];exact⟨a2.a0 h i,a⟩
   .rw[show nD d.2.1 (b.1.take (e+1))=h++[i] by simpa using j];simp only[U.Y,U,r,bt.same,a',a_,dm,gW];exact a2.a0 h i
   .exact sk
   omega
 obtain rfl:e=c b.1:=x;rw[c_];refine bN [-20] a E (g.aB ?_);refine cr a C (g.bh () [] ?_ (λw n=>absurd n E));simp
def Uv{b}{args}(ab)(dz)(j)(V:Nat->n O)(a)(k:c a=j)(i:bt j V (a1.fn a))(d:bk (ι:=Unit) q b args [] (λ_=>.p (.agg [dD 0 (c ab) (c ab),dD 1 (c dz) (c dz),dD 2 j j])) (λ_=>[.q 105 2 (c ab) (a2.fn ab),.q 129 2 (c dz) (bi.fn dz),.q 109 2 j V])):
  Y q b args [] (bV (ab,dz,a)) []:=by
 have l:=bk.bQ (aO:=λ_:Unit=>[.q 105 2 (c ab) (a2.fn ab),.q 129 2 (c dz) (bi.fn dz)]) (W:=109) (h:=2) (j:=λ_=>j) (V:=λ_=>V) d bm (λ_=>?_) bm (λ_=>g0 _);have e:=bk.bQ (aO:=λ_:Unit=>[.q 105 2 (c ab) (a2.fn ab)]) (W:=129) (h:=2) (j:=λ_=>c dz) (V:=λ_=>bi.fn dz) l bm (λ_=>?_) bm (λ_=>g0 _);have g:=bk.bQ (aO:=λ_:Unit=>[]) (W:=105) (h:=2) (j:=λ_=>c ab) (V:=λ_=>a2.fn ab) e bm (λ_=>?_) bm (λ_=>bE _);refine(g.le (oT:=λ_=>bV (ab,dz,a)) bm (λ_=>?_)).R
 .simp only[U.Y,U,a_,a'];exact⟨bt.same,bt.same,k.symm,i⟩
 .simp
 .simp
 simp
def XB(b)(d:dO)(e:dL b)(j:d.1=4)(o:0<=d.2.1)(n:d.2.1<c b.2.2)(h:a7 .i64 (3-lA b d)):
  bk (ι:=Unit) q 80 [bV b,eo d] [] (λ_=>.p (.agg [dD 0 (c b.1) (c b.1),dD 1 (c b.2.1) (c b.2.1),dD 2 (c b.2.2) (c b.2.2)])) (λ_=>[.q 105 2 (c b.1) (a2.fn b.1),.q 129 2 (c b.2.1) (bi.fn b.2.1),.q 109 2 (c b.2.2) (yq b d)]):=by
 refine bk.bB ba func80 rfl rfl rfl λk=>?_;have i:a9 q [(29,jM)]:=.cons kA .nil;have l:=e.aP;refine b_ i a C (g.aC (Uy b e.a2 e.bu e.a7 e.bx e.aP) [] a (a8 i [-13,-42,-48,91,99] a ?_ ?_))
 .have h:a7 .i64 (3-(b.2.2.getD (0+d.2.1.toNat) a1.I).1):=h;simp only[U,a7,j,bA,a',a_]at h⊢;exact FQ
 refine g.bh () [3,4,5] ?_ ft;simp
def Xz(b)(a:dO)(d:dL b)(i:a.1=4)(e:0<=a.2.1)(g:a.2.1<c b.2.2)(h:a7 .i64 (3-lA b a)):
  Y q 80 [bV b,eo a] [] (bV (b.1,b.2.1,b.2.2.set (0+a.2.1.toNat) (3-lA b a,(b.2.2.getD (0+a.2.1.toNat) a1.I).2))) []:=
 Uv b.1 b.2.1 _ _ _ E (a1.cS b.2.2 (0+a.2.1.toNat) (3-lA b a,(b.2.2.getD (0+a.2.1.toNat) a1.I).2) (c b.2.2) (bE _)) (XB b a d i e g h)
def XA(b)(e:dO)(d:dL b)(j:e.1=4)(n:¬(0<=e.2.1/\e.2.1<c b.2.2)):Y q 80 [bV b,eo e] [] (bV b) []:=by
 refine Y.bm ba func80 rfl rfl rfl λk=>?_;have h:a9 q [(29,jM)]:=.cons kA .nil;have l:=d.aP;refine b_ h a C (g.aC (qu b d.a2 d.bu d.a7 d.bx d.aP) [] a (a8 h [-13,-42,-48,91,-99] a ?_ ?_))
 .simp only[U,a7,j,dv,a',a_];exact FQ
 refine g.bh () [] ?_ (λo i=>absurd i E);simp
abbrev Eu(a:cj)(i:dO)(e g b d:Nat)(h:n Z):n an:=[jZ a,.cells 32 (vz i),.cells 27 [cD,cD,cD],.q 105 2 (c a.1) (gf a.1 e (.slice (f ⟨g,0,p⟩) d b)),.q 129 2 (c a.2.1) (bi.fn a.2.1),.q 109 2 (c a.2.2) (a1.fn a.2.2),.J (cm 153 2 (.row g b) d h),.cells 27 [dD 3 (c a.1) (c a.1),dD 4 (c a.2.1) (c a.2.1),dD 5 (c a.2.2) (c a.2.2)]]
def Xy(b)(d)(w:dL b)(t:d.1=3)(i0 z)(s:sr b d i0 z):
  bk (ι:={D:fl×n Z // ek 2 (b.1.getD i0 (0,[])).2.length (bH.fn (gK (b.1.getD i0 (0,[])).2 z d.2.2.2)) D.2}) q 80 [bV b,eo d] []
   (λ_=>.p (.agg [dD 0 (c b.1) (c b.1),dD 1 (c b.2.1) (c b.2.1),dD 2 (c b.2.2) (c b.2.2)]))
   (λD=>[.q 105 2 (c b.1) (gf b.1 i0 (cY D.1.1 (b.1.getD i0 (0,[])).2.length)),.q 129 2 (c b.2.1) (bi.fn b.2.1),.q 109 2 (c b.2.2) (a1.fn b.2.2),.J (cm 153 2 D.1.1 (b.1.getD i0 (0,[])).2.length D.1.2)]):=by
 have W:=s.gw;have Y:=w.bu _ (vm s.a_);have G:=w.a2;refine bk.bB ba func80 rfl rfl rfl λH=>?_;have h:a9 q [(29,jM)]:=.cons kA .nil;refine b_ h a C (g.a8 (UA b i0 s.a_ x w.a2 w.bu w.a7 w.bx w.aP) [] a bm ?_);rintro⟨⟨T,M⟩,N⟩;refine g.fE (cm.len (d:=6) a) λV=>?_;obtain⟨i,cap,rfl⟩:=V.2.2.1 x;refine a8 h [-13,-42,48] a gA (g.aE 8 (λl:Nat×n Z=>l.1<=c b.1/\(l.1<=i0->l.2=M)/\(i0<l.1->ek 2 (b.1.getD i0 (0,[])).2.length (bH.fn (gK (b.1.getD i0 (0,[])).2 z d.2.2.2)) l.2)) (λl=>[(3,aD 1 0),(4,aD 2 0),(5,aD 7 0),(8,R l.1)]) (λl=>Eu b d i0 i cap (b.1.getD i0 (0,[])).2.length l.2) (λl=>c b.1-l.1) (0,M) a E a ?_ a ⟨by omega,λ_=>rfl,λt=>by omega⟩ ?_)
 .simp only[U.Y,U,bt.same,a_,a'];and_intros<;>first|exactλ_ _=>rfl|rfl
 rintro⟨e,o⟩ ⟨F,K,J⟩;simp only at F K J;have j:0+(e:Int).toNat=e:=x;by_cases t:e<c b.1
 .by_cases S:e=i0
  .subst S;obtain rfl:=K (bE _);have u:=s.df;have y:=s.bY;generalize aa:(b.1.getD e (0,[])).2=ah at *;refine a8 h [54,917] a ?_ ?_
   .simp only[U,bA,a',a_];omega
   refine g.eI (ι:=Unit) b5 17 20 20 (λk=>ay k 16) (λk=>[aD 7 0,.p (.R (dD 3 (c b.1) (c b.1))),R e,cz 3 (.bz (c b.1) 2 (0+(e:Int).toNat) 0),cz 3 (.bz (c b.1) 2 (0+(e:Int).toNat) 0),R (b.1.getD (0+(e:Int).toNat) (0,[])).1,aD 1 1,R d.2.1,bh ((b.1.getD (0+(e:Int).toNat) (0,[])).1==d.2.1),bh m,aD 1 2,R d.2.2.1,aD 7 0,.p (.R (dD 3 (c b.1) (c b.1))),R e,cz 3 (.bz (c b.1) 2 (0+(e:Int).toNat) 0),cz 3 (.bz (c b.1) 2 (0+(e:Int).toNat) 1)].getD k .any)
    (λ_ k=>[aw (.val (.slice (f ⟨i,0,p⟩) (c ah) cap)),R (c ah),R (c ah-1)].getD (k-17) .any)
    (λ_=>Eu b d e i cap (c ah) o) a a a a a a a (λk t=>by have:=fe t;omega) a
    ⟨aJ.x,aJ.x,aJ.x,aJ.eval (bg:=[]) ba h a q',aJ.x,aJ.eval (bg:=[]) ba h a N4,aJ.x,aJ.x,aJ.x,aJ.eval (bg:=[66]) ba h a NS,aJ.x,aJ.x,aJ.x,aJ.x,aJ.x,aJ.eval (bg:=[]) ba h a q',aJ.x,C,C,C,C,C,C⟩
    (λ_=>⟨aJ.x,aJ.x,aJ.x,aJ.eval (bg:=[]) ba h a q',aJ.x,aJ.eval (bg:=[]) ba h a N4,aJ.x,aJ.x,aJ.x,aJ.eval (bg:=[66]) ba h a NS,aJ.x,aJ.x,aJ.x,aJ.x,aJ.x,aJ.eval (bg:=[]) ba h a q',aJ.x,C,aJ.eval (bg:=[]) ba h a q',aJ.eval (bg:=[]) ba h a FZ,C⟩)
    (dx.di (aJ.a1 (j4 a) (a0.e9 ba (aj:=.R (.c (.val (.slice (f ⟨i,0,p⟩) (c ah) cap)))) a a a a a ?_ ?_))) λ_=>?_
   .exact Q1
   .grind
   refine a8 h [78,918] a ?_ ?_
   .simp only[U,bA,a_];omega
   refine g.eI (ι:=Unit) b5 5 10 8 (λk=>ay k 4||(ay 6 k&&ay k 9)) (λk=>[aD 7 0,.p (.R (dD 3 (c b.1) (c b.1))),R e,cz 3 (.bz (c b.1) 2 (0+(e:Int).toNat) 0),cz 3 (.bz (c b.1) 2 (0+(e:Int).toNat) 1),.any,aD 1 2,R d.2.2.1,aD 1 3,aw (.T d.2.2.2)].getD k .any)
    (λ_ k=>[aw (.val (.slice (f ⟨i,0,p⟩) (c ah) cap))].getD (k-5) .any)
    (λ_=>Eu b d e i cap (c ah) o) a a a a a a a (λk t=>by simp at t;omega) a
    ⟨aJ.x,aJ.x,aJ.x,aJ.eval (bg:=[]) ba h a q',aJ.x,C,aJ.x,aJ.x,aJ.x,aJ.x,C,C,C,C⟩
    (λ_=>⟨aJ.x,aJ.x,aJ.x,aJ.eval (bg:=[]) ba h a q',aJ.x,C,aJ.x,aJ.x,aJ.x,aJ.x,C⟩)
    (dx.di (aJ.a1 (j4 a) (a0.e9 ba (aj:=.R (.c (.val (.slice (f ⟨i,0,p⟩) (c ah) cap)))) a a a a a ?_ ?_))) λ_=>?_
   .exact Q1
   .grind
   refine b_ h a q' ?_;have O:c o=c ah*2:=N.len;have I:0+d.2.2.1.toNat*2+1=z*2+1:=x;refine g.eQ ba 6 a a a a a a a ?_ a a λA B=>?_
   .show 0+d.2.2.1.toNat*2+1+1<=c o;omega
   have ab:=JL N W B;refine b_ h a FZ (g.ax (e+1,o.take (z*2+1)++A++o.drop (z*2+1+c A)) a E ?_ ?_ ?_)
   .simp only[U.Y,U,bt.same,a_,a'];show cm 153 2 _ _ (List.take (0+d.2.2.1.toNat*2+1) o++A++List.drop (0+d.2.2.1.toNat*2+1+c A) o)=_;rw[I]
   .grind
   grind
  have X:=s.b6 e t S;refine a8 h [54,-66,-78] a ?_ (g.ax (e+1,o) a ?_ ?_ ?_ ?_)
  .simp only[U,a7,j,eM,bA,a',a_];and_intros<;>first|exact X|omega
  .simp
  .simp
  .grind
  grind
 obtain rfl:e=c b.1:=x;refine a8 h [-54] a E (g.aB ?_);refine b_ h a C (g.bh ⟨(.row i cap,o),J s.a_⟩ [3,4,5,6] ?_ ft);simp
def Ux{o}{args}(b)(d)(i0 z)(x:i0<c b.1)(s:bk (ι:={g:fl×n Z // ek 2 (b.1.getD i0 (0,[])).2.length (bH.fn (gK (b.1.getD i0 (0,[])).2 z d.2.2.2)) g.2}) q o args []
   (λ_=>.p (.agg [dD 0 (c b.1) (c b.1),dD 1 (c b.2.1) (c b.2.1),dD 2 (c b.2.2) (c b.2.2)]))
   (λg=>[.q 105 2 (c b.1) (gf b.1 i0 (cY g.1.1 (b.1.getD i0 (0,[])).2.length)),.q 129 2 (c b.2.1) (bi.fn b.2.1),.q 109 2 (c b.2.2) (a1.fn b.2.2),.J (cm 153 2 g.1.1 (b.1.getD i0 (0,[])).2.length g.1.2)])):
  Y q o args [] (bV (g1 b d i0 z)) []:=by
 generalize e:b.1.getD i0 (0,[])=i at *;have A:∀k,k≠i0->a2.fn (g1 b d i0 z).1 k=a2.fn b.1 k:=λk l=>by simp[c0.fn,gv,al,rv,qf l]
 have D:a2.fn (g1 b d i0 z).1 i0=[.int .i64 i.1,.C v 2 (c i.2) (bH.fn (gK i.2 z d.2.2.2))]:=by have:(g1 b d i0 z).1.getD i0 a2.I=(i.1,gK i.2 z d.2.2.2):=N;show a2.a9 ((g1 b d i0 z).1.getD i0 a2.I)=_;rw[this];show[O.int .i64 i.1,O.C v 2 (c (gK i.2 z d.2.2.2)) (bH.fn (gK i.2 z d.2.2.2))]=_;rw[LS]
 have y:=bk.fB (aO:=λg:{g:fl×n Z // ek 2 (c i.2) (bH.fn (gK i.2 z d.2.2.2)) g.2}=>[.q 105 2 (c b.1) (gf b.1 i0 (cY g.1.1 (c i.2))),.q 129 2 (c b.2.1) (bi.fn b.2.1),.q 109 2 (c b.2.2) (a1.fn b.2.2)]) (fb:=λ_=>[.q 105 2 (c b.1) (a2.fn (g1 b d i0 z).1),.q 129 2 (c b.2.1) (bi.fn b.2.1),.q 109 2 (c b.2.2) (a1.fn b.2.2)]) (W:=153) (h:=2) (j:=c i.2) (bP:=λg=>g.1.1) (ah:=λg=>g.1.2) s (λg=>g.2) 0 bm bm bm bm (λ_=>g0 _)
  (λg k l=>by exact bJ)
  (λg k l r C I=>by
   by_cases t:k=i0
   .subst t;rw[D]at I;have:gf b.1 k (cY g.1.1 (c i.2)) k=[.int .i64 i.1,.val (cY g.1.1 (c i.2))]:=Oa;rw[this];rcases r with _|_|r
    .simp at I;subst I;exact⟨_,a,.inl a⟩
    .exact Ru
    grind
   .rw[A k t]at I;have:gf b.1 i0 (cY g.1.1 (c i.2)) k=a2.fn b.1 k:=Ff
    rw[this];exact⟨C,I,.inl a⟩)
 have B:=bk.bQ (aO:=λ_=>[.q 105 2 (c b.1) (a2.fn (g1 b d i0 z).1),.q 129 2 (c b.2.1) (bi.fn b.2.1)]) (W:=109) (h:=2) (j:=λ_=>c b.2.2) (V:=λ_=>a1.fn b.2.2) y bm (λ_=>?_) bm (λ_=>g0 _);have u:=bk.bQ (aO:=λ_=>[.q 105 2 (c b.1) (a2.fn (g1 b d i0 z).1)]) (W:=129) (h:=2) (j:=λ_=>c b.2.1) (V:=λ_=>bi.fn b.2.1) B bm (λ_=>?_) bm (λ_=>g0 _);have w:=bk.bQ (aO:=λ_=>[]) (W:=105) (h:=2) (j:=λ_=>c b.1) (V:=λ_=>a2.fn (g1 b d i0 z).1) u bm (λ_=>?_) bm (λ_=>bE _);refine(w.le (oT:=λ_=>bV (g1 b d i0 z)) bm (λ_=>?_)).R
 .exact QI
 .simp
 .simp
 simp
def Xx(b)(d)(e:dL b)(g:d.1=3)(i0 z)(a:sr b d i0 z):Y q 80 [bV b,eo d] [] (bV (g1 b d i0 z)) []:=
 Ux b d i0 z a.a_ (Xy b d e g i0 z a)
abbrev ac5(a:cj)(b:dO):n an:=[jZ a,.cells 32 (vz b),.cells 27 [cD,cD,cD],.w 105 2 (c a.1) (a2.fn a.1),.w 129 2 (c a.2.1) (bi.fn a.2.1),.w 109 2 (c a.2.2) (a1.fn a.2.2),
 .cells 27 [.w 3 2 (c a.1) (a2.fn a.1),.w 4 2 (c a.2.1) (bi.fn a.2.1),.w 5 2 (c a.2.2) (a1.fn a.2.2)]]
def XD(b)(d)(h:dL b)(t:d.1=3)(o:p4 b d):Y q 80 [bV b,eo d] [] (bV b) []:=by
 refine Y.bm ba func80 rfl rfl rfl λz=>?_;have i:a9 q [(29,jM)]:=.cons kA .nil;have y:=h.a2;refine b_ i a C (g.aC (qu b h.a2 h.bu h.a7 h.bx h.aP) [] a (a8 i [-13,-42,48] a gA (g.aE 7 (λe=>e<=c b.1) (λe:Nat=>[(3,aD 1 0),(4,aD 2 0),(5,aD 6 0),(8,R e)]) (λ_=>ac5 b d) (λe=>c b.1-e) 0 a E a E a x ?_)));intro e l;by_cases t:e<c b.1
 .have s:=o e t;have u:=h.bu _ (vm t);have j:b.1.getD (e:Int).toNat a2.I=b.1.getD e (0,[]):=by rw[c5];rfl
  generalize b.1.getD e (0,[])=r at *;by_cases k:r.1=d.2.1
  .refine a8 i [54,66,-78] a ?_ (g.ax (e+1) a ?_ ?_ ?_ ?_)
   .simp only[U,a7,j,k,fT,bA,dv,a',a_];exact fu
   .simp
   .simp
   .exact sk
   omega
  refine a8 i [54,-66,-78] a ?_ (g.ax (e+1) a ?_ ?_ ?_ ?_)
  .simp only[U,a7,j,eM,bA,dv,a',a_];and_intros<;>first|exact k|omega
  .simp
  .simp
  .exact sk
  omega
 obtain rfl:e=c b.1:=x;refine a8 i [-54] a E (g.aB ?_);refine b_ i a C (g.bh () [] ?_ (λw n=>absurd n E));simp
def WK(j):Y q 276 [R j] [] (bh (decide (0<=j)&&decide (j<999999999989))) []:=by
 refine Y.K func276 rfl λb=>?_;by_cases t:0<=j
 .exact a6 [5] a gA (g.ar a gA)
 exact a6 [-5] a gA (g.ar a gA)
def XP(b i):Y q 216 [pn b i] [] (bh (gx (b,i))) []:=by
 refine Y.K func216 rfl λh=>?_;have e:a9 q [(276,da c1 (λd=>bh (decide (0<=d)&&decide (d<999999999989))) λ_=>[])]:=.cons (.bd λd _=>WK d) .nil;unfold gx;cases t:(decide (0<=b)&&decide (b<999999999989))with
 |false=>exact a8 e [-6,-11] rfl gA (g.ar rfl)
 |true=>
  by_cases I:1<=i
  .exact a8 e [6,11] a ds (g.ar a so)
  exact a8 e [6,-11] a ds (g.ar a so)
abbrev BS:bK:=da p' (λa=>bh (gx a)) λ_=>[]
def M9:bM q 216 BS:=.bd λa _=>XP a.1 a.2
def Nn(d:n (Int×Int)):∀a:dJ,dJ.fr a->(d.foldl (λa b=>a.put b.1 b.2) a).af=d.foldl eB a.af/\dJ.fr (d.foldl (λa b=>a.put b.1 b.2) a):=by
 induction d with
 |nil=>grind
 |cons b g e=>
  grind[D8,acg]
def VG(d:n cb)(T:c d<=4000000)(Q:c (dT d)<=100000):Y q 175 [a2.C d] [] (a1.C (e7 d)) []:=by
 refine Y.K func175 rfl λO=>?_;have e:a9 q [(216,BS)]:=.cons M9 .nil;refine cK e a C (g.bM 3 253 2 a a ?_);refine g.aE 1 (λb=>b<=c d/\(dT (d.take b)).all gx=m) (λb:Nat=>[(3,.p (.R (.w 0 2 (c (dT (d.take b))) (a1.fn (dT (d.take b)))))),(9,a2.C d),(10,R (c d)),(11,R b)]) (λb=>[jv (dT (d.take b))]) (λb=>c d-b) 0 a ?_ a ?_ a ⟨by omega,a⟩ ?_
 .simp[dT]
 .simp[dT]
 rintro b ⟨B,j⟩;by_cases k:b<c d
 .have o:d.getD (b:Int).toNat a2.I=d.getD b (0,[]):=N;have F:=ED k;refine bf e [12] a bw (g.aE 2 (λu=>u<=(d.getD b (0,[])).2.length/\(hc d b u).all gx=m) (λu:Nat=>[(3,.p (.R (.w 0 2 (c (hc d b u)) (a1.fn (hc d b u))))),(5,aD 1 0),(9,a2.C d),(10,R (c d)),(11,R b),(16,bH.C (d.getD b (0,[])).2),(17,R (d.getD b (0,[])).2.length),(18,R u)]) (λu=>[jv (hc d b u),.cells 105 [.c (.int .i64 (d.getD b (0,[])).1),.c (.C v 2 (d.getD b (0,[])).2.length (bH.fn (d.getD b (0,[])).2))]]) (λu=>(d.getD b (0,[])).2.length-u) 0 a P9 a P9 a ⟨by omega,by simpa[hc]using j⟩ ?_);rintro u ⟨V,A⟩;obtain⟨J,M⟩:=zt (d:=d) (u:=u) k;have X:c (hc d b u)<=100000:=N;have Z:(d.getD b (0,[])).2.length<=100000:=by grind[MG]
  by_cases y:u<(d.getD b (0,[])).2.length
  .have w:(d.getD b (0,[])).2.getD (u:Int).toNat bH.I=(d.getD b (0,[])).2.getD u (0,[]):=N;have h:hc d b (u+1)=hc d b u++[(((d.getD b (0,[])).2.getD u (0,[])).1,(d.getD b (0,[])).1)]:=RA;have z:=a1.a0 (hc d b u) (((d.getD b (0,[])).2.getD u (0,[])).1,(d.getD b (0,[])).1);cases t:gx (((d.getD b (0,[])).2.getD u (0,[])).1,(d.getD b (0,[])).1)with
   |false=>
    have W:e7 d=[]:=by obtain⟨J,M⟩:=zt (d:=d) (u:=u+1) k;unfold e7;rw[bl];grind
    refine bf e [19,29] a ?_ (g.aX (bX.zero a ?_))
    .simp only[U,w,t,bA,a',a_];exact q_
    exact bw
   |true=>
    refine bf e [19,-29] a ?_ (g.ax (u+1) a ?_ ?_ ?_ ?_)
    .simp only[U,w,t,a7,show oF.bytes=16 from a,bA,a',a_];exact q_
    .exact QH
    .exact QH
    .grind
    omega
  have aa:u=(d.getD b (0,[])).2.length:=x;have s:hc d b u=dT (d.take (b+1)):=by rw[F,hc];grind[List.length_map]
  refine bf e [-19] a bJ (g.aB ?_);rw[s];refine cK e a bJ (g.ax (b+1) a E ?_ ⟨k,s▸A⟩ x);simp
 .obtain rfl:b=c d:=x;rw[c_]at j⊢;refine bf e [-12] a E (g.aB ?_);refine g.fZ (dF:=[(3,a1.C (dT d))]) (ao:=[jv (dT d)]) ?_ a E a E;have I:∀l∈dT d,a7 .i64 l.1/\a7 .i64 l.2:=λl S=>by have:=List.all_eq_true.1 j l S;simp only[gx,cC,bA]at this;simp only[a7];omega
  have i:a9 q [(212,d8 [qM (dT d)] (aw (eK (iX (dT d)))))]:=.cons (eg (Jv (dT d) x I)) .nil;have aV:(iX (dT d)).af=e7 d:=by unfold e7;rw[br j];exact(Nn (dT d) .nil bJ).1
  have D:c (e7 d)<=100000:=by have:=C_ (dT d) [];unfold e7;grind
  rw[<-aV]at D⊢;clear aV;generalize iX (dT d)=r at *;have K:=I_ (q:=q) r x
  cases r<;>(
   refine cK i a a (g.b0 K.tocF [] a a a a (by simp[eK]) a a a bm a bm a λ_=>?_)
   exact cK i a C (g.ar a))
def qG(b:n bB)(d:bB):Int:=match b.findIdx? (λe=>e==d)with
 |some a=>a
 |none=>-1
def aax{d}{aa}(a:e<c d)(j:∀b,b<e->d.getD b []≠aa)(h:d.getD e []=aa):qG d aa=e:=by
 have:d.findIdx? (λg=>g==aa)=f e:=by rw[uJ];refine⟨a,by grind,λb i=>?_⟩;grind
 simp[qG,this]
def aaz{d}{aa}(e:∀a,a<c d->d.getD a []≠aa):qG d aa=-1:=by have:d.findIdx? (λb=>b==aa)=p:=wN;simp[qG,this]
def aay(d)(aa):decide (0<=qG d aa)=d.contains aa:=by unfold qG;grind
def Vy(d)(aa):Y q 275 [bR.C d,b0 aa] [] (R (qG d aa)) []:=by
 refine Y.K func275 rfl λl=>?_;have r:=l.C 0 a;refine aZ a C (g.aE 0 (λb=>b<=c d/\∀e,e<b->d.getD e []≠aa) (λb:Nat=>[(0,bR.C d),(1,b0 aa),(7,R (c d)),(8,R b)]) (λ_=>[]) (λb=>c d-b) 0 a E a C a ⟨by omega,by omega⟩ ?_);rintro b ⟨o,h⟩;by_cases k:b<c d
 .have i:d.getD (b:Int).toNat bR.I=d.getD b []:=rfl;by_cases j:d.getD b []=aa
  .rw[aax k h j];refine a6 [9,16] a ?_ (g.aX (bX.zero a));simp[U,i,bA,gZ,a',a_];and_intros<;>first|exact j.symm|omega
  refine a6 [9,-16] a ?_ (g.ax (b+1) a ?_ C ⟨k,λe n=>?_⟩ x)
  .simp only[U,i,a7,bA,eM,a',a_];and_intros<;>first|grind|omega
  .simp
  grind
 rw[aaz λe n=>h e x];exact QP
abbrev SZ:bK:=eu (e2 bR) eF (λa b=>R (qG a b)) λ_ _=>[]
def Vh(d)(aa):Y q 215 [bR.C d,b0 aa] [] (bh (d.contains aa)) []:=by refine Y.K func215 rfl λe=>?_;have b:a9 q [(275,SZ)]:=.cons (.bn λd aa _=>Vy d aa) .nil;refine b_ b a (by simp[U];exact bR.U _) (g.ar a ?_);simp only[U,bR.m,a_];exact aay d aa
abbrev Hj:bK:=eu (e2 bR) eF (λa b=>bh (a.contains b)) λ_ _=>[]
def aeg:bM q 215 Hj:=.bn λa b _=>Vh a b
def kT(b:n fw)(d:Nat):Bool:=(aB d).all λa=>gx (b.getD a (0,0))&&(a==0||decide ((b.getD (a-1) (0,0)).1<(b.getD a (0,0)).1))
theorem K'{d}:kT d (e+1)=(kT d e&&(gx (d.getD e (0,0))&&(e==0||decide ((d.getD (e-1) (0,0)).1<(d.getD e (0,0)).1)))):=by unfold kT;rw[List.range_succ,List.all_append];simp
def K9{d}(h:kT d e=v):∀a,e<=a->kT d a=v:=by
 intro a g;obtain⟨b,rfl⟩:=Nat.exists_eq_add_of_le g;induction b with
 |zero=>exact h
 |succ b i=>grind[K']
def VH(d):Y q 211 [a1.C d] [] (bh (kT d (c d))) []:=by
 refine Y.K func211 rfl λo=>?_;have t:=o.C 0 a;have b:a9 q [(216,BS)]:=.cons M9 .nil;refine b_ b a C (g.aE 0 (λe=>e<=c d/\kT d e=m) (λe:Nat=>[(0,a1.C d),(5,a1.C d),(6,R (c d)),(7,R e)]) (λ_=>[]) (λe=>c d-e) 0 a E a C a ⟨by omega,a⟩ ?_);rintro e ⟨r,k⟩;by_cases n:e<c d
 .have j:=K' (d:=d) (e:=e);rw[k,fs]at j;have i:d.getD (e:Int).toNat a1.I=d.getD e (0,0):=rfl;cases h:gx (d.getD e (0,0))with
  |false=>
   rw[K9 (e:=e+1) N (c d) x];refine a8 b [8,14,29] a ?_ (g.aX (bX.zero a));simp_all
  |true=>
  rw[h,fs]at j;by_cases s:e=0
  .subst s;refine a8 b [8,-14,-17,-29] a ?_ (g.ax 1 a E C ⟨n,j⟩ x);simp only[U,i,h,a7,bA,dv,a',a_];exact q_
  have l:d.getD ((e:Int)-1).toNat a1.I=d.getD (e-1) (0,0):=by rw[show((e:Int)-1).toNat=e-1 by omega];rfl
  by_cases u:(d.getD (e-1) (0,0)).1<(d.getD e (0,0)).1
  .refine a8 b [8,-14,17,-29] a ?_ (g.ax (e+1) a E C ⟨n,by grind⟩ x);simp only[U,i,l,h,a7,bA,dv,a',a_];exact q_
  rw[K9 (e:=e+1) N (c d) x];refine a8 b [8,-14,17,29] a ?_ (g.aX (bX.zero a));simp only[U,i,l,h,a7,bA,a',a_];exact q_
 obtain rfl:e=c d:=x;rw[k];refine a8 b [-8] a E (g.aB ?_);exact b_ b a C (g.ar a)
def V2(d):Y q 27 [aC.C d,aC.C d] [] (bh m) []:=by
 refine Y.K func27 rfl λb=>?_;have i:=b.C 0 a;refine a6 [-10] a E (g.aE 0 (λe=>e<=c d) (λe:Nat=>[(0,aC.C d),(1,aC.C d),(5,R e)]) (λ_=>[]) (λe=>c d-e) 0 a E a E a x ?_);intro e h;by_cases j:e<c d
 .exact Pe
 exact Q8
abbrev xJ:bK:=eu (e2 aC) (e2 aC) (λ_ _=>bh m) λa b=>[b=a]
def EQ:bM q 27 xJ:=.bn λa b d=>by have:b=a:=d;subst this;exact V2 _
def V3(d):Y q 104 [a1.C d,a1.C d] [] (bh m) []:=by
 refine Y.K func104 rfl λb=>?_;have i:=b.C 0 a;refine a6 [-10] a E (g.aE 0 (λe=>e<=c d) (λe:Nat=>[(0,a1.C d),(1,a1.C d),(5,R e)]) (λ_=>[]) (λe=>c d-e) 0 a E a E a x ?_);intro e h;by_cases j:e<c d
 .exact Pe
 exact Q8
abbrev Hp:bK:=eu (e2 a1) (e2 a1) (λ_ _=>bh m) λa b=>[b=a]
def aeo:bM q 104 Hp:=.bn λa b d=>by have:b=a:=d;subst this;exact V3 _
abbrev Le(a:cb):an:=.cells 105 [.c (.int .i64 a.1),.c (.C v 2 (c a.2) (bH.fn a.2))]
def V4(b):Y q 105 [fD b,fD b] [] (bh m) []:=by
 refine Y.K func105 rfl λr=>?_;by_cases D:c b.2<=9223372036854775807
 .refine a6 [-10,-18] a E (g.aE 2 (λd=>d<=c b.2) (λd:Nat=>[(2,aD 0 0),(3,aD 1 0),(5,R d)]) (λ_=>[Le b,Le b]) (λd=>c b.2-d) 0 a E a E a x ?_);intro d o;by_cases n:d<c b.2
  .refine bN [24,-37] a ?_ (g.ax (d+1) a ?_ ?_ ?_ ?_)
   .simp[a7,n];omega
   .simp
   .simp
   .grind
   omega
  refine bN [-24] a bW (g.aB ?_);exact cr a C (g.ar a)
 exfalso;obtain⟨k,A,h,_⟩:=r;obtain⟨B,t⟩:∃u,bx [] k u (fD b):=by
  match A,h with
  |[i,_],h=>exact⟨i,h.1⟩
 obtain⟨s,_,e⟩:=t
 match s,e with
 |[i,l],e=>
  have:=e.2.1;cases(show Rd k.E l (.C v 2 (c b.2) (bH.fn b.2))from this)with
  |C w j y z F=>omega
abbrev Hq:bK:=eu (jE bH) (jE bH) (λ_ _=>bh m) λa b=>[b=a]
def aep:bM q 105 Hq:=.bn λa b d=>by have:b=a:=d;subst this;exact V4 _
abbrev jY(a:eh):an:=.cells 129 [.c (.int .i64 a.1),.c (.C v 2 (c a.2) (cq.fn a.2))]
def V5(k)(e:c k.2<=4000000):Y q 106 [iO k,iO k] [] (bh m) []:=by
 refine Y.K func106 rfl λh=>?_;have w:a9 q [(27,xJ)]:=.cons EQ .nil;refine a8 w [-10,-18] a E (g.aE 2 (λb=>b<=c k.2) (λb:Nat=>[(2,aD 0 0),(3,aD 1 0),(5,R b)]) (λ_=>[jY k,jY k]) (λb=>c k.2-b) 0 a E a E a x ?_);intro b d;by_cases i:b<c k.2
 .refine bf w [24,-39,53] a ?_ (g.ax (b+1) a ?_ ?_ ?_ ?_)
  .simp only[U,a7,fT,fq,ip,bA,a',a_];and_intros<;>first|exact aC.U _|omega
  .simp
  .simp
  .grind
  omega
 refine bf w [-24] a bW (g.aB ?_);exact wI
abbrev Hr:bK:=eu (jE cq) (jE cq) (λ_ _=>bh m) λb a=>[a=b,c a.2<=4000000]
def aeq:bM q 106 Hr:=.bn λa b e=>by obtain⟨rfl,d⟩:b=a/\_:=e;exact V5 _ d
abbrev zu(a:cj):an:=.cells 27 [.c (.C v 2 (c a.1) (a2.fn a.1)),.c (.C v 2 (c a.2.1) (bi.fn a.2.1)),.c (.C v 2 (c a.2.2) (a1.fn a.2.2))]
def V6(b)(e:dL b):Y q 58 [bV b,bV b] [] (bh m) []:=by
 refine Y.K func58 rfl λk=>?_;have w:a9 q [(104,Hp),(105,Hq),(106,Hr)]:=.cons aeo (.cons aep (.cons aeq .nil));have n:=e.a2;have l:=e.a7;refine bf w [-13,-21,28] a ?_ ?_
 .simp only[U,a7,fT,fq,ip,bA,a',a_];and_intros<;>first|exact a1.U _|omega
 refine g.aE 2 (λd=>d<=c b.1) (λd:Nat=>[(2,aD 0 0),(3,aD 1 0),(5,R d)]) (λ_=>[zu b,zu b]) (λd=>c b.1-d) 0 a E a E a x ?_;intro d h;by_cases i:d<c b.1
 .refine bf w [35,48] a ?_ (g.ax (d+1) a ?_ ?_ ?_ ?_)
  .simp only[U,a7,bA,a',a_];and_intros<;>first|exact bH.U _|omega
  .simp
  .simp
  .grind
  omega
 refine bf w [-35] a bW (g.aB ?_);refine cK w a C (g.aE 2 (λd=>d<=c b.2.1) (λd:Nat=>[(2,aD 0 0),(3,aD 1 0),(6,R d)]) (λ_=>[zu b,zu b]) (λd=>c b.2.1-d) 0 a E a E a x ?_);intro d h;by_cases i:d<c b.2.1
 .have u:=(e.bx _ (mF i (0,[]))).1;have j:b.2.1.getD (d:Int).toNat bi.I=b.2.1.getD d (0,[]):=N;refine bf w [54,67] a ?_ (g.ax (d+1) a ?_ ?_ ?_ ?_)
  .simp only[U,a7,j,cq.m,bA,a',a_];and_intros<;>first|exact cq.U _|omega
  .simp
  .simp
  .grind
  omega
 refine bf w [-54] a bW (g.aB ?_);exact wI
end
def Gv{d}:∀{h:Nat},c (fy d h)=h->∀a,1<=a->a<h->d.getD a 0≠d.getD (a-1) 0
 |0,_,a,_,b=>by omega
 |h+1,b,a,e,i=>by
  have g:=xk d h;rw[fy]at b;split at b
  .omega
  rename_i j;simp only[dm,gW]at b;by_cases k:a=h
  .grind
  exact Gv (h:=h) x a e x
def ME(d):(j0 d).Pairwise λa b=>a<=b:=by have:=List.pairwise_mergeSort (le:=λa b:Int=>decide (a<=b)) (λe g h i j=>by grind) (λe g=>by grind) d;exact this.imp λk=>by grind
def zs(d):(j0 d).Perm d:=List.mergeSort_perm _ _
def Th(d):c (hL (j0 d))=c d↔d.Nodup:=by
 rw[<-qY d,<-(zs d).nodup_iff];have r:=ME d;generalize j0 d=i at *;have k:∀{b:Nat} (e:b<c i),i.getD b 0=i[b]:=λ{b} e=>by grind
 constructor
 .intro e;have n:=Gv e;refine List.Pairwise.imp (R:=λs t=>s<t) (λe q=>by omega) (pd.2 λb g h a l=>?_);have j:=pd.1 r;have o:=n g x a;rw[k a,k x]at o;have u:=j (g-1) g x a x;by_cases q:b=g-1
  .grind
  have:=j b (g-1) h x x;omega
 intro e;unfold hL;rw[uM (bE _),c_];exact FI
def MI(j z):∀(g:n Int)d(e:Bool),(e=m->j∈d) ->
  ((z∈(g.foldl (gg j) (d,e)).1∨(z=j/\(g.foldl (gg j) (d,e)).2=v))↔((z∈d∨(z=j/\e=v))∨z∈g))
 |[],d,e,_=>by simp
 |i::g,d,e,r=>by
  rw[kb];have h:∀a b,gg j (d,e) i=(a,b)->(b=m->j∈a)/\((z∈a∨(z=j/\b=v))↔((z∈d∨(z=j/\e=v))∨z=i)):=λa b o=>by unfold gg at o;grind
  cases k:gg j (d,e) i with
  |mk a b=>
   obtain⟨q,l⟩:=h a b k;rw[MI j z g a b q,l,fr,or_assoc]
def abb{d}{b a:Int}:a∈e8 d b↔a∈d∨a=b:=by have:=MI b a d [] v E;unfold e8;grind
def DI{z}:∀{b a:n Int},z∈b.foldl e8 a↔z∈a∨z∈b
 |[],a=>by simp
 |d::b,a=>by rw[kb,DI,abb,fr,or_assoc]
def KN{d}{z}:z∈gI d↔z∈eb d:=by unfold gI;rw[DI];simp
def KM{z}:∀{e:n eh}{b:n Int},z∈e.foldl (λa d=>(gI d.2).foldl e8 a) b↔z∈b∨∃d∈e,z∈eb d.2
 |[],b=>by simp
 |d::e,b=>by rw[kb,KM,DI,KN,or_assoc];simp
def vF{d}{z}:z∈h9 d↔∃a∈d,z∈eb a.2:=by unfold h9;rw[KM];simp
def KL{d}{z}:∀{u:Nat},u<=c d->(z∈fy d u↔z∈d.take u)
 |0,_=>by simp[fy]
 |u+1,e=>by
  have b:=KL (d:=d) (z:=z) (u:=u) x;rw[fy,ig x 0];split
  .rename_i r;rw[b,gl];constructor
   .exact .inl
   rintro(a|a)
   .exact a
   simp only[gY]at a;subst a;rw[r.2,al,bG x];exact A0.2 ⟨u-1,by simp;omega,by simp⟩
  grind
def yQ{k}{z}:z∈fZ k↔z∈eb k.2:=by unfold fZ hL;rw[KL (bE _),c_];exact(zs _).mem_iff
def aa9{d}{j:Int->Bool}:(h9 d).all j=(aB (c d)).all λe=>!(fZ (d.getD e (0,[]))).any λb=>!j b:=by
 rw[pb,List.all_eq_true,f'];constructor
 .intro h e a;rw[j',List.any_eq_false];intro b g;have:=h b (vF.2 ⟨_,oC a,yQ.1 g⟩);simp[this]
 intro h b g;obtain⟨n,l,k⟩:=vF.1 g;obtain⟨e,a,rfl⟩:=A0.1 l;have i:=h e a;rw[al,bG a,ir,j',List.any_eq_false]at i;simpa using i b (yQ.2 k)
def yw{a:n α}(d:e<c a)(b:α):a.getD e b=a[e]:=N
def xp{ae:α->Int}{I}{d}:(∀a,a<c d->kg ae I d a=m)↔d.Pairwise λn o=>ae n<ae o:=by
 constructor
 .intro j;have key:∀g a e (b:a<c d) (h:e<c d),e=a+g->0<g->ae d[a]<ae d[e]:=by
   intro g;induction g with
   |zero=>grind
   |succ g q=>
    intro a e b h k _;have l:=j e h;rw[qi x,decide_eq_true_iff,yw x,yw h]at l;by_cases i:g=0
    .subst i;grind
    grind
  exact pd.2 λa e b h k=>key (e-a) a e b h x x
 intro j a b;by_cases i:a=0
 .exact bJ
 rw[qi i,decide_eq_true_iff,yw x,yw b];exact(pd.1 j) (a-1) a x b x
def sN{d}{S:α->Bool}{I}:(∀a,a<c d->S (d.getD a I)=m)↔∀b∈d,S b=m:=by grind[List.mem_iff_getElem]
structure wY(h:Int)(S:cb):Prop where
 df:1<=S.1/\S.1<=99
 key:cB h=m
 len:1<=c S.2/\c S.2<=4
 jP:∀k∈S.2,right h k=m
 ig:S.2.Pairwise λk X=>k.1<X.1
def DY{d}:h' h d=m↔wY h d:=by
 rw[DZ];simp[cC,bA,f'];have k:(∀b,b<c d.2->ie h d b=m)↔(∀g∈d.2,right h g=m)/\d.2.Pairwise λg l=>g.1<l.1:=by
  rw[<-sN (I:=(0,[])),<-xp (ae:=λg:cW=>g.1) (I:=(0,[]))];constructor
  .intro e;exact⟨λb a=>by have:=e b a;simp[ie,cC]at this;exact this.1,λb a=>by have:=e b a;simp only[ie,cC]at this;exact this.2⟩
  intro e b a;simp only[ie,cC];exact⟨e.1 b a,e.2 b a⟩
 rw[k];constructor
 .rintro⟨⟨⟨r,j⟩,u⟩,i,B⟩;exact⟨r,j,u,i,B⟩
 rintro⟨r,j,u,i,B⟩;grind
structure mq(h:Int)(b:cj):Prop where
 c7:∀S∈b.1,wY h S
 dM:b.1.Pairwise λS bc=>S.1<bc.1
 aw:(dg b.1).Nodup
 a7:∀k∈b.2.1,(1<=k.1/\k.1<=20)/\(e0 h k b.1).isSome=m
 dv:b.2.1.Pairwise λk X=>k.1<X.1
 key:cB h=m
 eF:g9 b.2.2=m
 len:c b.1<=20
def wb{b}:hX h b=m↔mq h b:=by
 unfold hX;simp[cC,bA,f'];have q:(∀e,e<c b.1->nN h b.1 e=m)↔(∀g∈b.1,wY h g)/\b.1.Pairwise λg s=>g.1<s.1:=by
  rw[<-xp (ae:=λg:cb=>g.1) (I:=(0,[]))];have:(∀g∈b.1,wY h g)↔∀g∈b.1,h' h g=m:=⟨λk g n=>DY.2 (k g n),λk g n=>DY.1 (k g n)⟩
  rw[this,<-sN (I:=(0,[]))];constructor
  .intro k;exact⟨λe a=>by have:=k e a;simp[nN,cC]at this;exact this.1,λe a=>by have:=k e a;simp[nN,cC]at this;exact this.2⟩
  intro k e a;simp[nN,cC];grind
 have t:(∀e,e<c b.2.1->ly h b e=m)↔(∀i∈b.2.1,(1<=i.1/\i.1<=20)/\(e0 h i b.1).isSome=m)/\b.2.1.Pairwise λi w=>i.1<w.1:=by
  rw[<-xp (ae:=λg:eh=>g.1) (I:=(0,[]))];have:(∀i∈b.2.1,(1<=i.1/\i.1<=20)/\(e0 h i b.1).isSome=m)↔∀i∈b.2.1,(decide (1<=i.1/\i.1<=20)&&(e0 h i b.1).isSome)=m:=N;rw[this,<-sN (I:=(0,[]))];constructor
  .intro k;exact⟨λe a=>by have:=k e a;simp[ly,cC]at this⊢;grind,λe a=>by have:=k e a;simp[ly,cC]at this;exact this.1.2⟩
  intro k e a;have l:=k.1 e a;simp[ly,cC]at l⊢;grind
 rw[q,t];constructor
 .rintro⟨⟨⟨⟨⟨⟨l,B⟩,j⟩,u,z⟩,r⟩,d⟩,o⟩;exact⟨l,B,j,u,z,r,d,o⟩
 rintro⟨l,B,j,u,z,r,d,o⟩;grind
structure n8(h:Int)(J:dW):Prop extends mq h J.1 where
 hA:∀k∈J.1.2.1,∀j∈eb k.2,j∈J.2.1
 hr:∀j∈J.2.2,∃S∈J.1.1,S.1=j
 jj:J.2.2.Pairwise λk X=>k<X
def wj{a}:hd h a=m↔n8 h a:=by
 unfold hd;simp only[cC,wb,f'];have o:(h9 a.1.2.1).all (λb=>a.2.1.contains b)=m↔∀j∈a.1.2.1,∀b∈eb j.2,b∈a.2.1:=by
  rw[List.all_eq_true];constructor
  .intro g j u b l;simpa using g b (vF.2 ⟨j,u,l⟩)
  intro g b l;obtain⟨j,u,l⟩:=vF.1 l;grind
 have q:(∀e,e<c a.2.2->nF a.1.1 a.2.2 e=m)↔(∀b∈a.2.2,∃k∈a.1.1,k.1=b)/\a.2.2.Pairwise λj s=>j<s:=by
  rw[<-xp (ae:=λb:Int=>b) (I:=0)];have:(∀b∈a.2.2,∃k∈a.1.1,k.1=b)↔∀b∈a.2.2,(a.1.1.any λk=>k.1==b)=m:=E;rw[this,<-sN (I:=0)];constructor
  .intro g;exact⟨λe d=>by have:=g e d;simp only[nF,cC]at this;exact this.1,λe d=>by have:=g e d;simp[nF,cC]at this;exact this.2⟩
  intro g e d;simp[nF,cC];grind
 rw[o,q];constructor
 .rintro⟨⟨n,i,B⟩,r⟩;exact⟨r,n,i,B⟩
 rintro⟨r,n,i,B⟩;grind
def iU(b:Int)(a:n Int)(d:cb):cb:=if d.1=b then hD d a else d
def fi(b:Int)(a:n Int)(d:n cb):n cb:=(d.map (iU b a)).filter λe=>!e.2.isEmpty
def jx(a:dW):dW:=match a.2.2 with
 |[]=>a
 |b::d=>((fi b a.2.1 a.1.1,a.1.2),a.2.1,d)
def YH{d:n cW}{a:n Int}{j}(e:j∈a):(d.filter λb=>a.contains b.1).find? (λb=>b.1==j)=d.find? (λb=>b.1==j):=N
def abM{bS:Int}{a:n Int}{S}{j}(b:j∈a):gq h (iU bS a S) j=gq h S j:=by
 unfold iU;split
 .simp only[gq,hD,YH b]
 simp
def JE{h bS}{ct}{j}(b:j∈ct):∀a:n cb,dP h (fi bS ct a) j=dP h a j
 |[]=>rfl
 |S::a=>by
  have g:=JE (h:=h) (bS:=bS) b a;have e:=abM (h:=h) (bS:=bS) (S:=S) b;unfold fi dP at *;rw[mr,sG];split
  .grind
  rename_i d;have d:(iU bS ct S).2=[]:=N;have:gq h S j=p:=by rw[<-e];unfold gq;grind
  grind
def YB{ab dr}{a}(d:∀b∈a,dP h ab b=dP h dr b):h6 h ab a=h6 h dr a:=by unfold h6;grind[List.map_congr_left]
def ade{ab dr}{k}(d:∀a∈eb k.2,dP h ab a=dP h dr a):e0 h k ab=e0 h k dr:=by
 have r:∀b∈k.2,hk h ab b=hk h dr b:=λb i=>by unfold hk;rw[YB λa w=>d a (List.mem_flatMap.2 ⟨b,i,w⟩)]
 unfold e0 fN;grind[List.map_congr_left]
theorem yJ{bS}{ct}{a}:(iU bS ct a).1=a.1:=by unfold iU hD;split<;>rfl
theorem Dy{bS}{ct}{S}:List.Sublist (iU bS ct S).2 S.2:=by unfold iU hD;split<;>simp
def MO{bS}{ct}{ab}{a}(b:a∈fi bS ct ab):∃d∈ab,a=iU bS ct d/\a.2≠[]:=by unfold fi at b;grind
def KX{bS}{ct}:∀a:n cb,List.Sublist (dg (fi bS ct a)) (dg a)
 |[]=>.refl _
 |d::a=>by
  have b:=KX (bS:=bS) (ct:=ct) a;unfold fi dg at *;rw[mr,sG,sC];split
  .rw[sC];exact(Dy.map _).append b
  grind
def n8.step{b}(d:n8 h b):n8 h (jx b):=by
 unfold jx;split
 .exact d
 rename_i bS y n;have s:=d.hr;have r:=d.jj;rw[n]at s r;have w:∀e∈b.1.2.1,e0 h e (fi bS b.2.1 b.1.1)=e0 h e b.1.1:=λe j=>ade λo g=>JE (d.hA e j o g) _;refine⟨⟨λx t=>?_,?_,d.aw.sublist (KX _),λe j=>?_,d.dv,d.key,d.eF,?_⟩,d.hA,λo g=>?_,(iG.1 r).2⟩
 .obtain⟨S,k,rfl,q⟩:=MO t;have i:=d.c7 S k;have l:=Dy (bS:=bS) (ct:=b.2.1) (S:=S);refine⟨by rw[yJ];exact i.df,i.key,⟨AY.2 q,fM l.length_le i.len.2⟩,λe j=>i.jP e (l.subset j),i.ig.sublist l⟩
 .show (fi bS b.2.1 b.1.1).Pairwise _;unfold fi;refine List.Pairwise.filter _ (xb.2 (d.dM.imp λu=>?_));grind[yJ]
 .have:=d.a7 e j;grind
 .show (c (fi bS b.2.1 b.1.1))<=20;have:c (fi bS b.2.1 b.1.1)<=c b.1.1:=by unfold fi;grind
  exact fM this d.len
 obtain⟨S,k,rfl⟩:=s o (nf _ g);have q:S.1≠bS:=by grind[List.pairwise_cons]
 refine⟨S,?_,a⟩;show S∈fi bS b.2.1 b.1.1;unfold fi;refine kJ.2 ⟨k_.2 ⟨S,k,by unfold iU;grind⟩,?_⟩;have:=(d.c7 S k).len.1;grind
def sd{o}(i:dX o=m):rm o:=by
 obtain⟨k,_,_,t⟩:=E0.1 i;have q:∀a∈o,d9 a.2=m/\c a.2<=40:=λa d=>by have:=(k a d).2;simp[fG,cC,bA]at this;grind
 refine⟨by omega,λa d=>⟨(q a d).1,by grind⟩,?_⟩;have:∀b:n cZ,(∀a∈b,c a.2<=40)->c (eP b)<=40*c b:=by
  intro b;induction b with
  |nil=>exact bJ
  |cons a u j=>
   intro e;have g:=j λh l=>e h (nf _ l);have r:=e a jf;have s:=vR a.2;simp[eP,sC,dm,fp]at g⊢;omega
 grind
theorem abg(bS h)(ab):(kV bS h ab).2.length=c ab:=DJ h ab
def xq{d:n eh}:∀a,d.Pairwise (λa g=>a.1<g.1)->(∀b∈d,a<=b.1/\b.1<=20)->(c d:Int)<=max 0 (21-a):=by
 induction d with
 |nil=>grind
 |cons b r h=>
  intro a k e;obtain⟨o,i⟩:=iG.1 k;have q:=e b jf;have:=h (b.1+1) i λl j=>⟨by grind,(e l (nf _ j)).2⟩
  grind
def Ln(h):∀g a(b:n bB),(∀e∈b,cE e=m)->∀j∈iA h g a b,∃w d,a<=w/\w<a+c (iA h g a b)/\0<c d/\c d<=4/\(∀e∈d,cE e=m)/\j=kV w h d
 |0,_,_,_,j,i=>by exact bJ
 |g+1,a,b,r,j,i=>by
  simp only[iA]at i⊢;split at i
  .rename_i l;rw[br l];rcases fr.1 i with rfl|i
   .grind
   obtain⟨w,d,q,o,s⟩:=Ln h g (a+1) (b.drop 4) (λe k=>r e (sz k)) j i;grind
  grind
def C'{a:n α}(d:c a≠0)(b:α):a.getD (c a-1) b∈a:=mF x b
def D1(h):∀g a(b:n bB),∀e∈iA h g a b,a<=e.1
 |0,_,_,e,d=>by exact bJ
 |g+1,a,b,e,d=>by
  simp only[iA]at d;split at d
  .rcases fr.1 d with rfl|d
   .exact Int.le_refl _
   have:=D1 h g (a+1) (b.drop 4) e d;omega
  grind
def Ll(h):∀(d:Nat) (a:Int)(b:n bB),(iA h d a b).Pairwise λe g=>e.1<g.1
 |0,_,_=>by simp[iA]
 |d+1,a,b=>by
  simp[iA];split
  .refine iG.2 ⟨λj i=>?_,Ll h d (a+1) (b.drop 4)⟩;have:=D1 h d (a+1) (b.drop 4) j i;exact bJ
  simp
theorem abd{d}{k X}(a:X∈fF d k):X=k∨X∈d:=by
 induction d with
 |nil=>simp[fF]at a;grind
 |cons g e b=>
  simp only[fF]at a;grind
def abc{ab}{X}(d:X∈kr h ab):∃a∈ab,X=(e9 h a,fE a):=by
 have key:∀(ab:n bB) b,X∈ab.foldl (λe a=>fF e (e9 h a,fE a)) b->X∈b∨∃a∈ab,X=(e9 h a,fE a):=by
  intro ab;induction ab with
  |nil=>grind
  |cons a i g=>
   grind[abd]
 rcases key ab [] d with d|d
 .cases d
 grind
section
variable {q:ag T}
structure o5(b:cj):Prop where
 size:dL b
 hJ:b.1.Pairwise λw i=>w.1<i.1
 num:∀k∈b.2.1,-4000000<=k.1/\k.1<=4000000
 aP:∀k∈b.2.2,1<=k.1/\k.1<=2
def J_{b}(i:o5 b)(d):(∃a r,sr b d a r)∨p4 b d:=by
 by_cases h:p4 b d
 .exact .inr h
 refine .inl ?_;simp only[p4,Classical.not_forall,Classical.not_not]at h;obtain⟨a,e,k,u,w⟩:=h;refine⟨a,d.2.2.1.toNat,e,k,λg j t n=>?_,by omega,by omega⟩;have q:b.1.getD a (0,[])=b.1[a]:=N;have o:b.1.getD g (0,[])=b.1[g]:=N;rw[q]at k;rw[o]at n;rcases d6 g a with l|s
 .have:=pd.1 i.hJ g a j e l;omega
 have:=pd.1 i.hJ a g e j x;omega
structure RY(q:ag T)(b:cj)(d:dO)(az:cj):Prop where
 ea:dL az
 cF:Y q 35 [bV b,eo d] [] (bV az) []
 c':Y q 80 [bV b,eo d] [] (bV az) []
theorem K_{d}(g:kT d (c d)=m):(∀b∈d,gx b=m)/\d.Pairwise λb h=>b.1<h.1:=by
 have i:=f'.1 g;have j:∀a,a<c d->∀e,e<a->(d.getD e (0,0)).1<(d.getD a (0,0)).1:=by
  intro a;induction a with
  |zero=>grind
  |succ a k=>
   grind
 grind[List.getElem_of_mem,List.pairwise_iff_getElem]
def YM(d):∀a:n fw,(a++d).Pairwise (λb e=>b.1<e.1)->d.foldl eB a=a++d:=by
 induction d with
 |nil=>grind
 |cons b h g=>
  grind[acc]
def ae1{d}(g:kT d (c d)=m)(j):(iX d).find j=ll d j:=by obtain⟨a,b⟩:=Nn d .nil bJ;have e:=YM d [] (by grind[K_]);rw[iX,C2 b,a];exact eN (ll · j) e
def Np{o}(d:dX o=m):∀a∈o,fG a.2=m:=λa b=>((E0.1 d).1 a b).2
abbrev IA(a:n bB):y:=.p (.R (.w 2 1 (c a) (bR.fn a)))
def XJ(z B)(h)(o)(d)(k:cB h=m)(A:dX o=m)(O:kT d (c d)=m)(ad:c d<=4000000):
  Y q 174 [R h,bC.C o,a1.C d] (ij z B) (bR.C (gw h o d)) (ij z B):=by
 refine Y.K func174 rfl λaP=>?_;have P:a9 q [(68,da c1 (λh=>bh (cB h)) λ_=>[]),(50,rD),(211,da (e2 a1) (λd=>bh (kT d (c d))) λ_=>[])]:=.cons pR (.cons wl (.cons (.bd λd _=>VH d) .nil));refine bf P [-15,-20,-25] a ?_ ?_
 .simp only[U,k,bC.m,a1.m,sc,A,O];exact⟨a,a1.U _,a,bC.U _,a⟩
 have G:=K_ O;have M:∀r∈d,a7 .i64 r.1/\a7 .i64 r.2:=λr bb=>by have:=G.1 r bb;simp only[gx,cC,bA]at this;simp only[a7];omega
 have aV:=ae1 O;have ae:=Jv (q:=q) d ad M;have V:∀l,Y q 213 [aw (eK (iX d)),R l] [] (R (ll d l)) []:=λl=>aV l▸UZ (iX d) l
 clear aV;generalize iX d=F at *;have s:a9 q [(212,d8 [qM d] (aw (eK F)))]:=.cons (eg ae) .nil;cases F<;>(
  refine cK s a a (g.bM 8 9 1 a a ?_);refine g.dI 3 [0,7,29,30] (λb=>b<=c o) (λb:Nat=>[(8,IA ((eP (o.take b)).foldl (fh h d) [])),(31,R b)]) (λb=>ij z B++[.w 9 1 (c ((eP (o.take b)).foldl (fh h d) [])) (bR.fn ((eP (o.take b)).foldl (fh h d) []))]) (λb=>c o-b) 0 a ?_ a ?_ a x ?_
  .simp[eP]
  .simp[eP]
  intro b Z;by_cases X:b<c o
  .have L:o.getD (b:Int).toNat bC.I=o.getD b ([],[]):=N;have I:o.getD b ([],[])∈o:=N;have ai:=Np A _ I;have u:=GB X;have H:=GA o (b+1);have D:=sd A;have W:=(D.fq _ I).1;have ag:=D.all;have ah:=D.len;have S:=vS W;generalize o.getD b ([],[])=i at *;rw[u,dm]at H;have T:lf i.2=cy i.2:=by unfold lf;grind
   have t:a9 q [(196,da eF (λaa=>bR.C (lf aa)) λ_=>[])]:=.cons EO .nil;refine bf t [32] a bw ?_;rw[L,T];refine g.dI 4 [0,7,29,30,31,37,38] (λe=>e<=c (cy i.2)) (λe:Nat=>[(8,IA ((eP (o.take b)++(cy i.2).take e).foldl (fh h d) [])),(39,R e)]) (λe=>ij z B++[.w 9 1 (c ((eP (o.take b)++(cy i.2).take e).foldl (fh h d) [])) (bR.fn ((eP (o.take b)++(cy i.2).take e).foldl (fh h d) [])),.cells 53 [.c (.T i.1),.c (.T i.2)]]) (λe=>c (cy i.2)-e) 0 a E a E a x ?_;intro e ak;have y:=C9 h d (eP (o.take b)++(cy i.2).take e) [];simp only[gC,dm,List.length_take]at y;by_cases aj:e<c (cy i.2)
   .have ab:(cy i.2).getD (e:Int).toNat bR.I=(cy i.2).getD e []:=N;have Q:cE ((cy i.2).getD e [])=m:=S _ N;have w:(eP (o.take b)++(cy i.2).take (e+1)).foldl (fh h d) []=fh h d ((eP (o.take b)++(cy i.2).take e).foldl (fh h d) []) ((cy i.2).getD e []):=ih;generalize(eP (o.take b)++(cy i.2).take e).foldl (fh h d) []=dw at *;generalize(cy i.2).getD e []=n at *;have bb:=bR.a0 dw n;refine bN [40] a bw ?_;rw[ab];refine g.aC (CF z B h n k Q) [0,1] a (g.aC (V _) [] a ?_);have j:a9 q [(215,Hj)]:=.cons aeg .nil;by_cases K:ll d (e9 h n)=0
    .cases av:dw.contains n with
     |true=>
      rw[fh,bl N]at w;refine bf j [49,-54] a ?_ (g.ax (e+1) a ?_ ?_ ?_ ?_)
      .simp only[U,K,av,a7,bR.m,fT,bA,a',a_];exact Qf
      .rw[w];simp
      .rw[w];simp
      .grind
      omega
     |false=>
      rw[fh,br N]at w;refine bf j [49,54] a ?_ (g.ax (e+1) a ?_ ?_ ?_ ?_)
      .simp only[U,K,av,a7,show te.bytes=16 from a,bR.m,fT,bA,a',a_];exact Qf
      .exact Q3
      .exact Q3
      .grind
      omega
    rw[fh,bl N]at w;refine bf j [-49] a bJ (g.ax (e+1) a ?_ ?_ ?_ ?_)
    .rw[w];simp
    .rw[w];simp
    .grind
    omega
   have J:e=c (cy i.2):=x;refine bN [-40] a bw (g.aB ?_);refine cr a bJ (g.ax (b+1) a ?_ ?_ ?_ ?_)
   .rw[u,J,c_];simp
   .rw[u,J,c_];simp
   .grind
   omega
  .obtain rfl:b=c o:=x;rw[c_];refine bN [-32] a E (g.aB ?_)
   refine cr a C (g.aM [0,1] a ?_ qx);simp[gw,eP])
abbrev aeC(a:cb×Bool):y:=.ae [.agg [.c (.int .i64 a.1.1),.c (.C v 2 (c a.1.2) (bH.fn a.1.2))],.R (.c (.bool a.2))]
def gT(b:Int)(a:bB):cW:=(e9 b a,fE a)
def tz(a d:Int)(b:n bB):cb:=(a,l' (b.map (gT d)))
def l8(a d:Int)(b:n bB):cb×Bool:=if h' d (tz a d b)=m then(tz a d b,m)else((0,[]),v)
theorem y_:∀b a,c (b.foldl hE a)=c a+c b
 |[],a=>by simp
 |d::b,a=>by rw[kb,y_ b,LP,fp];omega
def Nx:∀d{b:n cW}{e:Nat},gi b->e<c b->gi (iY d b e)
 |0,_,_,a,_=>a
 |d+1,b,e,a,g=>by
  rw[iY];split
  .exact a
  split
  .exact Nx d (tT a x g) pZ
  grind
theorem ab7{d}{k}(b:gi d)(h:a7 .i64 k.1/\c k.2<=9223372036854775807):gi (hE d k):=by
 refine Nx _ (λg e=>?_) E;rcases gl.1 e with a|a
 .exact b g a
 grind
def abY{d}(a:gi d)(b:0<c d):gi (g' d):=
 Co _ _ (tT a b x) pZ pZ
theorem KR{a}(b:cE a=m):a7 .i64 (gT h a).1/\(gT h a).2.length<=9223372036854775807:=by
 have d:=b;simp only[cE,cC,bA]at d;have e:=sI (ga a*(2*h+1)+h*7919) (show(999999999989:Int)≠0 by decide);have g:=sB (ga a*(2*h+1)+h*7919) (show(0:Int)<999999999989 by decide);refine⟨?_,?_⟩
 .show a7 .i64 (e9 h a);simp only[a7,e9];omega
 show c (fE a)<=_;unfold fE e5;grind
def Km(h)(a:n bB)(g:∀d∈a,cE d=m):gi ((a.map (gT h)).foldl hE []):=by
 have:∀(b:n bB) e,(∀d∈b,cE d=m)->gi e->gi ((b.map (gT h)).foldl hE e):=by
  intro b;induction b with
  |nil=>grind
  |cons d j i=>grind[ab7,KR]
 exact this a [] g (by simp[gi])
abbrev LG(e d:aq×Z)(g:Nat)(a:fl)(b:n cW):n an:=ij e d++[.cells 105 [.c (.int .i64 0),.c (.C m 0 0 λ_=>[])],is g a (c b),aG a (c b) b]
abbrev D3(b:Int)(a:n cW):n an:=[.cells 105 [.c (.int .i64 b),.w 6 2 (c a) (bH.fn a)],.w 153 2 (c a) (bH.fn a)]
def Jf(t s:aq×Z)(bS h)(ab)(H:a7 .i64 bS)(bT:cB h=m)(K:∀u∈ab,cE u=m)(ax:c ab<=4):
  Y q 176 [R bS,R h,bR.C ab] (ij t s) (aeC (l8 bS h ab)) (ij t s):=by
 refine Y.bm ba func176 rfl rfl rfl λav=>?_;refine bN [902] a C (g.jH 8 3 153 2 a a λr ak=>?_);refine cr a C (g.dI 5 [0,1,6,8,14,15] (λi:Nat×fl=>i.1<=c ab) (λi=>[(16,R i.1)]) (λi=>LG t s r i.2 (((ab.take i.1).map (gT h)).foldl hE [])) (λi=>c ab-i.1) (0,.nil ak) a E a ?_ a x ?_)
 .simp[gp]
 rintro⟨e,bP⟩ J;simp only at J;by_cases o:e<c ab
 .have G:ab.getD (e:Int).toNat bR.I=ab.getD e []:=N;have aa:cE (ab.getD e [])=m:=K _ N;have L:((ab.take (e+1)).map (gT h)).foldl hE []=hE (((ab.take e).map (gT h)).foldl hE []) (gT h (ab.getD e [])):=ih;have an:c (((ab.take e).map (gT h)).foldl hE [])=e:=by grind[y_]
  have I:=Km h (ab.take e) λu S=>K u (hh S);generalize ab.getD e []=u at *;generalize((ab.take e).map (gT h)).foldl hE []=d at *;refine bf (.cons zD .nil:a9 q [(219,lM)]) [17] a bw ?_;rw[G];refine g.aC (CF t s h u bT aa) [0,1] a (cK (.cons zD .nil:a9 q [(219,lM)]) a C (g.a8 (Vl r bP I x (k:=gT h u) (KR aa)) [3,4] a bm λQ=>?_));have X:=LP d (gT h u);refine cr a bJ (g.ax (e+1,Q) a E ds N ?_);grind
 obtain rfl:e=c ab:=x;rw[c_];refine bN [-17] a E (g.aB ?_);have au:c ((ab.map (gT h)).foldl hE [])<=4:=by grind[y_]
 have I:=Km h ab K;have ae:l' (ab.map (gT h))=[]++kX (c ((ab.map (gT h)).foldl hE [])) ((ab.map (gT h)).foldl hE []):=by rw[l',y_,qe,gC,cV]
 refine cr a C (g.cr 5 1 153 2 (bH.fn []) a a ?_);refine g.dI 7 [1,6,8,11] (λi:n cW×fl×n cW=>gi i.1/\c i.1+c i.2.2<=4/\l' (ab.map (gT h))=i.2.2++kX (c i.1) i.1) (λi=>[]) (λi=>LG t s r i.2.1 i.1++D3 bS i.2.2) (λi=>c i.1) ((ab.map (gT h)).foldl hE [],bP,[]) a E a E a ⟨I,by grind,ae⟩ ?_;rintro⟨o,bP,b⟩ ⟨M,ag,B⟩;simp only at M ag B;refine cr a C (g.aN (a0.dV a a) a a ?_);refine g.R (aJ.eE ba 3 a a a a a (tQ bP _) a) a ?_;refine g.aC (Cx bP (c o) o) [4] a ?_;by_cases aj:c o=0
 .rw[aj,kX,h2]at B;subst B;refine bN [-37] a ds (g.aB ?_);have T:a9 q [(167,BN)]:=.cons M4 .nil;have ar:c (l' (ab.map (gT h)))<=4:=x;cases ad:h' h (tz bS h ab)with
  |false=>
   have w:h' h (bS,l' (ab.map (gT h)))=v:=ad;have F:l8 bS h ab=((0,[]),v):=by unfold l8;grind
   rw[F];refine bf T [50] a Rg (g.cv () [0,1] ?_ qx);simp
  |true=>
   have w:h' h (bS,l' (ab.map (gT h)))=m:=ad;have F:l8 bS h ab=(tz bS h ab,m):=by unfold l8;grind
   rw[F];refine bf T [-50] a Rg (g.cv () [0,1] ?_ qx);simp[tz]
 obtain⟨j,A⟩:∃j,c o=j+1:=⟨c o-1,by omega⟩
 refine bN [37,909] a bw (g.iQ (J4 (e:=4) (j:=c o) (bP:=bP) (d:=o) a x) λP=>?_);obtain⟨z,l,rfl,V⟩:=P;rw[A]at V;have S:=Vk (q:=q) r z l M A x V;have ah:=abY M x;have X:c ((g' o).take j)=j:=by grind[LH]
 have aP:l' (ab.map (gT h))=(b++[(g' o).getD j (0,[])])++kX j ((g' o).take j):=by rw[B,A,kX,bl x,A];simp
 have ao:gi ((g' o).take j):=λk D=>ah k (hh D);show g q _ _ _ _ _ (ij t s++[.cells 105 [.c (.int .i64 0),.c (.C m 0 0 λ_=>[])],is r (.row z l) (c o),aG (.row z l) (c o) o]++D3 bS b);rw[A];generalize(g' o).getD j (0,[])=k at *;generalize(g' o).take j=W at *;refine g.eI (ι:=Unit) b5 4 7 10 (λh=>ay h 3) (λh=>([aD 5 1,.p (.R (.w 6 2 (c b) (bH.fn b))),g3 (.pointer (f ⟨r,0,p⟩)),s0 r]:n y).getD h .any) (λ_ h=>([.any,.any,.any,.any,sZ k,x3 k,aw (.C m 2 1 λe=>([[.int .i64 k.1,.T k.2]]:n (n O)).getD e [])]:n y).getD h .any)
  (λ_=>ij t s++[.cells 105 [.c (.int .i64 0),.c (.C m 0 0 λ_=>[])],is r (.row z l) j,aG (.row z l) j W]++D3 bS b)
  rfl rfl rfl rfl rfl rfl rfl (λh o=>by have:=fe o;omega) rfl
  ⟨aJ.x,aJ.x,aJ.x,aJ.x,C,C,C,C,C,C,C⟩
  (λ_=>⟨aJ.x,aJ.x,aJ.x,aJ.x,C,aJ.a1 (j4 a) (a0.gg (ai:=[.int .i64 k.1,.T k.2]) ba a a a a),aJ.x,C⟩)
  (dx.dp S.tocF [3,4] a a a a a a a bm a bm) λ_=>?_
 have D:=bH.a0 b k;refine cr a ?_ (g.ax (W,.row z l,b++[k]) a ?_ ?_ ?_ ?_)
 .simp only[U,show l1.bytes=24 from a,a'];omega
 .simp
 .simp only[X,U.Y,U,dm,fp,gC,a',a_];and_intros<;>first|exact bt.same|exact D|rfl
 .grind
 grind
abbrev aeM(a:eh):y:=.ae [.agg [.c (.int .i64 a.1),.c (.C v 2 (c a.2) (cq.fn a.2))],.R (.c (.bool m))]
abbrev MD(e d:aq×Z)(b:Int)(a:n m8):n an:=ij e d++[.cells 129 [.c (.int .i64 0),.c (.C m 0 0 λ_=>[])],.cells 129 [.c (.int .i64 b),.w 4 2 (c a) (cq.fn a)],.w 168 2 (c a) (cq.fn a)]
abbrev adg(b:cZ)(a:n Int):n an:=[.cells 53 [.c (.T b.1),.c (.T b.2)],.cells 168 [.c (.T b.1),.w 7 1 (c a) (aC.fn a)],.w 3 1 (c a) (aC.fn a)]
def XK(B l)(bS h)(o)(ah:1<=bS/\bS<=99)(r:cB h=m)(w:dX o=m):
  Y q 177 [R bS,R h,bC.C o] (ij B l) (aeM (gU bS h o)) (ij B l):=by
 refine Y.bm ba func177 rfl rfl rfl λad=>?_;have G:a9 q [(68,da c1 (λh=>bh (cB h)) λ_=>[]),(50,rD)]:=.cons pR (.cons wl .nil);refine bf G [-15,-19,-24,-29] a ?_ ?_
 .simp only[U,r,bC.m,sc,w,dv];and_intros<;>first|exact bC.U _|rfl|omega
 refine g.cr 3 1 168 2 (cq.fn []) a a ?_;refine g.dI 5 [1,6,8,33,34] (λb=>b<=c o) (λb:Nat=>[(35,R b)]) (λb=>MD B l bS (oL h (o.take b))) (λb=>c o-b) 0 a E a E a x ?_;intro b K;by_cases ag:b<c o
 .have X:o.getD (b:Int).toNat bC.I=o.getD b ([],[]):=N;have z:o.getD b ([],[])∈o:=N;have D:=sd w;have I:=D.fq _ z;have ab:=Np w _ z;have y:=D.len;have T:=vS I.1;have aa:=vR (o.getD b ([],[])).2;have A:oL h (o.take (b+1))=oL h (o.take b)++[oK h (o.getD b ([],[]))]:=ih;have Q:c (oL h (o.take b))=b:=N;generalize o.getD b ([],[])=d at *;generalize oL h (o.take b)=i at *;have Z:lf d.2=cy d.2:=by unfold lf;grind
  have u:a9 q [(196,da eF (λV=>bR.C (lf V)) λ_=>[])]:=.cons EO .nil;refine bf u [36] a bw ?_;rw[X,Z];refine g.cr 6 1 3 1 (aC.fn []) a a ?_;refine g.dI 8 [1,6,8,10,11,33,34,35,44,45] (λe=>e<=c (cy d.2)) (λe:Nat=>[(46,R e)]) (λe=>MD B l bS i++adg d (ks h ((cy d.2).take e))) (λe=>c (cy d.2)-e) 0 a E a E a x ?_;intro e L;by_cases ae:e<c (cy d.2)
  .have j:(cy d.2).getD (e:Int).toNat bR.I=(cy d.2).getD e []:=N;have S:cE ((cy d.2).getD e [])=m:=T _ N;have M:ks h ((cy d.2).take (e+1))=ks h ((cy d.2).take e)++[e9 h ((cy d.2).getD e [])]:=ih;have H:c (ks h ((cy d.2).take e))=e:=N;generalize(cy d.2).getD e []=s at *;generalize ks h ((cy d.2).take e)=k at *;have t:=aC.a0 k (e9 h s);refine bN [47,911] a bw ?_
   rw[j];refine g.gk b5 [aD 6 1,.p (.R (.w 7 1 (c k) (aC.fn k))),R h,b0 s,R (e9 h s),aw (.C m 1 1 λb=>([[.int .i64 (e9 h s)]]:n (n O)).getD b [])] 6 a a a a a ⟨aJ.x,aJ.x,aJ.x,aJ.x,
    aJ.dK (dx.dp (CF B l h s r S).tocF [0,1] a a a a a a a bm a bm),aJ.x,C⟩ ?_
   refine cr a ?_ (g.ax (e+1) a ?_ ?_ ?_ ?_)
   .simp only[U,a7,show ef.bytes=8 from a,a',a_];exact fu
   .simp
   .simp only[M,U.Y,U,dm,fp,gC,a',a_];and_intros<;>first|exact bt.same|exactλ_ _=>rfl|exact t|rfl|omega
   .grind
   omega
  have W:e=c (cy d.2):=x;rw[W,c_];have t:=cq.a0 i (oK h d);have F:c i+1=c (i++[oK h d]):=E;have J:cq.a9 (oK h d)=[O.T d.1,O.C v 1 (c (ks h (cy d.2))) (aC.fn (ks h (cy d.2)))]:=rfl;rw[J,<-A]at t;rw[<-A]at F;refine bN [-47] a E (g.aB ?_);refine cr a P4 (g.ax (b+1) a E ?_ ?_ ?_)
  .simp only[U.Y,U,a',a_];and_intros<;>first|exact bt.same|exact t|exact F|rfl
  .grind
  omega
 obtain rfl:b=c o:=x;rw[c_];refine bN [-36] a E (g.aB ?_);refine cr a C (g.cv () [0,1] ?_ qx);simp[gU]
end
section
variable {q:ag T}[q.b8]
abbrev Ga(b:Nat):={a:n cZ×Nat // dX a.1=m/\b<=a.2/\a.2<=b+400}
end
section
variable {q:ag T}
set_option maxRecDepth 20000 in
def WX(z)(b:Nat->Int)(j:Bytes b)(e:Nat)(h:e<=4000000)(i:z<=1048576)(d)(n:1<=c d/\c d<=1000):
  Y q 74 [aD 0 0,bR.C d] [ej z b e] (b0 (d.getD (qT z b e (c d)).toNat [])) [ej z b (e+1)]:=by refine Y.K func74 rfl λk=>?_;refine aZ a C (g.aC (Ji z b j e (c d) h i x) [0] a ?_);have l:=Lv z b e (c d) x;exact aZ a bW (g.aM [0] a o2 nq)
end
end R1
def bk.die{E:ag P}{I}{args}{W h}{F:Nat->n O}{k}{q:ι->Nat->n O}{S:ι->Nat}(J:bk E I args [.q W h j F] (λ_=>cz 0 k) (λz=>[.q W h (S z) (q z)])):Y E I args [.q W h j F] (cz 0 k) [.M]:=
 ⟨J.1,λT A y w Q o u=>J.2 T A y w Q o λz r K i x d g b=>u r K i x (by
  obtain⟨D,e,_,_⟩:cx _ _ _ (.S 0 k):=d;exact(⟨D,e,by simp,λ_ _ _ _ R=>by grind⟩:cx [.M] i K (.S 0 k))) g.eb
  ⟨b.size,b.a6,b.mem,b.bG,b.bW,λB M L aG t=>by
   obtain⟨N,l,e,s,U⟩:=b.box B M L aG t;cases B with
   |zero=>simp at aG;subst aG;exact⟨.M,l,a,s,C⟩
   |succ B=>grind,b.os,b.tape,b.output,b.own⟩⟩
namespace R1
variable {q:ag T}
def I4(b):Y q 64 [Ch b] [] (bh (hy b)) []:=by
 refine Y.K func64 rfl λi=>?_;have d:a9 q []:=.nil;unfold hy;by_cases e:b.1=1
 .by_cases jL:1<=b.2
  .exact a8 d [6,11,16] a bw (g.ar a ds)
  exact a8 d [6,11,-16] a bw (g.ar a uk)
 by_cases h:b.1=2
 .by_cases jL:1<=b.2
  .exact a8 d [-6,11,16] a bw (g.ar a ds)
  exact a8 d [-6,11,-16] a bw (g.ar a uk)
 exact a8 d [-6,-11,-16] a bw (g.ar a bw)
def Wu(b):Y q 63 [Ch b] [] (bh (!hy b)) []:=by refine Y.K func63 rfl λe=>?_;have d:a9 q [(64,da p' (λb=>bh (hy b)) λ_=>[])]:=.cons (.bd λb _=>I4 b) .nil;exact b_ d a C (g.ar a)
def aa0(d):g9 d=(decide (c d<=9)&&!d.any λa=>!hy a):=by
 have:(aB (c d)).all (λb=>hy (d.getD b (0,0)))=!d.any λa=>!hy a:=by rw[pb,f',j',List.any_eq_false];grind[List.mem_iff_getElem]
 rw[g9,this,Bool.and_comm]
def Wv(d):Y q 31 [a1.C d] [] (bh (g9 d)) []:=by
 refine Y.K func31 rfl λi=>?_;have e:=Va (q:=q) d 63 (λt=>!hy t) λh _=>Wu h;have b:a9 q [(62,d8 [a1.C d,aw (.fn (.func 63) [] [])] (bh (d.any λt=>!hy t)))]:=.cons (eg e) .nil;rw[aa0];by_cases t:c d<=9
 .exact a8 b [6] a ⟨a,ff x⟩ (g.ar a gA)
 exact a8 b [-6] a bW (g.ar a bw)
def tU:bM q 31 oh:=.bd λa _=>Wv a
def W3(d)(k:c d.2<=4000000):Y q 205 [fD d] [] (aC.C (d.2.map (·.1))) []:=by
 refine Y.K func205 rfl λl=>?_;refine a6 [902] a C (g.bM 3 3 1 a a ?_);refine aZ a C (g.aE 2 (λb=>b<=c d.2) (λb:Nat=>[(1,aD 0 0),(3,.p (.R (.w 1 1 b (aC.fn ((d.2.take b).map (·.1)))))),(7,bH.C d.2),(8,R (c d.2)),(9,R b)]) (λb=>[xH d,.w 3 1 b (aC.fn ((d.2.take b).map (·.1)))]) (λb=>c d.2-b) 0 a E a E a x ?_);intro b j;by_cases h:b<c d.2
 .have i:d.2.getD (b:Int).toNat bH.I=ea d b:=N;have w:(d.2.take (b+1)).map (·.1)=(d.2.take b).map (·.1)++[(ea d b).1]:=ih;have e:c ((d.2.take b).map (·.1))=b:=N;have aj:=aC.a0 ((d.2.take b).map (·.1)) (ea d b).1;rw[e]at aj;refine a6 [10] a ?_ (g.ax (b+1) a ?_ ?_ h x)
  .simp only[U,a7,show ef.bytes=8 from a];grind
  .exact Pu
  exact Pu
 obtain rfl:b=c d.2:=x;rw[c_];refine a6 [-10] a E (g.aB ?_);exact wJ
abbrev HD:bK:=da (jE bH) (λa=>aC.C (a.2.map (·.1))) λa=>[c a.2<=4000000]
def aeF:bM q 205 HD:=.bd λb a=>W3 b a
def abk(ab)(e):c (dg (ab.take e))<=c (dg ab):=by have:dg ab=dg (ab.take e)++dg (ab.drop e):=RS;grind
abbrev acB(a:n Int):y:=cz 0 (.C (c a) 1 0 (c a))
def Je(ab)(o:∀i∈ab,c i.2<=4000000)(y:c (dg ab)<=4000000):Y q 168 [a2.C ab] [] (acB (dg ab)) [jg (c (dg ab)) (dg ab)]:=by
 refine Y.K func168 rfl λr=>?_;have u:=r.C 0 a;have d:a9 q [(205,HD)]:=.cons aeF .nil;refine a8 d [902] a C (g.fa 3 3 1 (aC.fn []) a ?_);refine b_ d a C (g.aE 1 (λb=>b<=c ab) (λb:Nat=>[(3,cz 0 (.C (c (dg (ab.take b))) 1 0 (c (dg (ab.take b))))),(6,a2.C ab),(7,R (c ab)),(8,R b)]) (λb=>[jg (c (dg (ab.take b))) (dg (ab.take b))]) (λb=>c ab-b) 0 a Fj a (by simp[bt,dg]) a x ?_);intro b n;by_cases h:b<c ab
 .have B:ab.getD (b:Int).toNat a2.I=ab.getD b (0,[]):=N;have e:=KY h;have j:=abk ab (b+1);have w:=o _ (oC (I:=(0,[])) h);generalize ab.getD b (0,[])=i at *;rw[e]at j;generalize dg (ab.take b)=k at *;have l:=aC.ha k (i.2.map (·.1)) _ a;simp only[dm,k8]at j l;refine a8 d [9] a ?_ (g.ax (b+1) a ?_ ?_ h x)
  .simp only[U,B,a7,bH.m,bH.U,k8,show ef.bytes=8 from a];grind
  .rw[e];simp only[U.Y,U,B,bH.m,dm,k8,a',a_];and_intros<;>first|exact bt.same|rfl|omega
  rw[e];simp only[U.Y,U,B,bH.m,dm,k8,a',a_];grind
 obtain rfl:b=c ab:=x;rw[c_];refine a8 d [-9] a E (g.aB ?_);refine b_ d a C (g.aM [0] a ?_ (λt s=>absurd s E));simp
def WO(ab)(b:∀e∈ab,c e.2<=4000000)(d:c (dg ab)<=4000000):Y q 168 [a2.C ab] [] (aC.C (dg ab)) []:=
 Y.bQ (aO:=[]) (W:=3) (h:=1) (j:=c (dg ab)) (V:=aC.fn (dg ab)) (Je ab b d) a E a (bE _)
end R1
namespace R1
section
variable {q:ag T}
def Jm(b):Y q 136 [bV b] [] (bV b) []:=by refine Y.bB func136 rfl rfl rfl λe=>?_;refine aZ a E ?_;refine g.freeze 2 1 a a a ?_;exact g.cb ba [] a E a a a (λh d=>absurd d E)
abbrev HJ:bK:=da pf (λa=>bV a) λ_=>[]
def aeL:bM q 136 HJ:=.bd λa _=>Jm a
abbrev zo(a:cj):an:=.cells 171 [.c (.C v 2 (c a.1) (a2.fn a.1)),.c (.C v 2 (c a.2.1) (bi.fn a.2.1)),.c (.C v 2 (c a.2.2) (a1.fn a.2.2))]
structure n6(b:cj):Prop extends p8 b where
 c7:∀S∈b.1,c S.2<=4000000
 e':c (dg b.1)<=4000000
def tA(b:Int)(a:cj):Bool:=(aB (c a.1)).all (nN b a.1)&&decide (c a.1<=20)&&decide (dg a.1).Nodup
def W6(h)(b)(bT:cB h=m)(l:n6 b):Y q 137 [bV b,R h] [] (bh (tA h b)) []:=by
 refine Y.K func137 rfl λX=>?_;have y:=l.fR;have S:=l.c7;have T:=WO (q:=q) b.1 l.c7 l.e';have n:a9 q [(167,BN)]:=.cons M4 .nil;refine b_ n a C ?_;unfold tA;refine g.aE 1 (λe=>e<=c b.1/\∀B,B<e->nN h b.1 B=m) (λe:Nat=>[(1,R h),(2,aD 0 0),(9,a2.C b.1),(10,R (c b.1)),(11,R e)]) (λ_=>[zo b]) (λe=>c b.1-e) 0 a E a E a ⟨by omega,by omega⟩ ?_;rintro e ⟨M,u⟩;by_cases t:e<c b.1
 .have bz:b.1.getD e a2.I=b.1.getD e (0,[]):=rfl;have o:b.1.getD (e-1) a2.I=b.1.getD (e-1) (0,[]):=rfl;have w:nN h b.1 e=(h' h (b.1.getD e (0,[]))&&kg (·.1) (0,[]) b.1 e):=rfl;have J:=qi (ae:=λr:cb=>r.1) (I:=(0,[])) (d:=b.1) (e:=e);have i:=S _ (oC (I:=(0,[])) t);generalize b.1.getD e (0,[])=r at *;generalize b.1.getD (e-1) (0,[])=z at *;cases s:h' h r with
  |false=>
   rw[s,sJ]at w;refine a8 n [12,20,35] a ?_ (g.aX (bX.zero a ?_))
   .simp[-al,bz,bT,i,s,bH.m,bH.U];omega
   rw[kK t w];simp
  |true=>
   rw[s,fs]at w;by_cases K:e=0
   .subst K;refine a8 n [12,-20,-23,-35] a ?_ (g.ax 1 a E E ⟨t,iJ u bJ⟩ x);simp[-al,bz,bT,i,s,bH.m,bH.U,a7];omega
   have J:=J K;by_cases O:z.1<r.1
   .refine a8 n [12,-20,23,-33,-35] a ?_ (g.ax (e+1) a E E ⟨t,iJ u N⟩ x);exact Qs
   refine a8 n [12,-20,23,33,35] a Qs (g.aX (bX.zero a ?_));exact j5
 obtain rfl:e=c b.1:=x;rw[f'.2 u,fs];refine a8 n [-12] a E (g.aB ?_);refine b_ n a C (g.aC (Je b.1 l.c7 l.e') [] a (b_ n a C (g.aC (CL (dg b.1) l.e') [1] a ?_)));have W:=Th (dg b.1);have F:=(IS (q:=q) (j0 (dg b.1)) (by rw[qY];exact l.e')).die;rw[qY]at F;have V:=H8 (j0 (dg b.1));rw[qY]at V;have Q:=l.e';generalize hL (j0 (dg b.1))=j at *;generalize j0 (dg b.1)=A at *;have hK:a9 q [(170,la [dM (c (dg b.1))] [jg (c (dg b.1)) A] (cz 0 (.C (c (dg b.1)) 1 0 (c j))) [.M]),(168,d8 [a2.C b.1] (aC.C (dg b.1)))]:=.cons (ma F) (.cons (eg T) .nil);refine a8 hK [909] a C ?_;by_cases aa:c b.1<=20
 rotate_left
 .refine a8 hK [-46] a bW (g.ar a ?_);exact bw
 have D:(c b.1:Int)<=20:=x;generalize Z:dg b.1=k at *;refine g.dg (ι:=Unit) b5 6 (λe=>match ay e 5 with|true=>m|false=>match af e 8 with|true=>m|false=>af e 9) (λe=>[aD 0 0,a2.C b.1,R (c b.1),bh (decide ((c b.1:Int)<=20)),bh m,cz 1 (.C (c k) 1 0 (c k)),.any,.any,aD 0 0,a2.C b.1].getD e .any)
  (λ_ e=>[.any,.any,.any,.any,.any,.any,cz 1 (.C (c k) 1 0 (c j)),R (c j),.any,.any,aC.C k,R (c k),bh ((c j:Int)==c k),bh ((c j:Int)==c k),bh ((c j:Int)==c k)].getD e .any) (λ_=>[zo b,.M]) a a a a a a ?_ ?_ ?_ ?_
 .exact⟨.x,.x,.x,.x,.eval ba hK (bg:=[46]) a (ff D),.x,C,C,.x,.x,C,C,C,C,C,C⟩
 .intro _;exact⟨.x,.x,.x,.x,.eval ba hK (bg:=[46]) a (ff D),.x,C,.x,.x,.x,.eval ba hK (bg:=[]) a a,.x,.x,.x,.x,C⟩
 .exact .di (dS ba hK (bg:=[]) (ao:=f [zo b,.M]) a ⟨a,a⟩)
 intro _;refine b_ hK a C (g.ar a ?_);have:((c j:Int)==c k)=decide k.Nodup:=N;exact bJ
def iz:n (Int×Int)->O
 |[]=>.bb
 |a::b=>.Q [.int .i64 a.1,.int .i64 a.2,iz b]
abbrev v'(a:n (Int×Int)):O:=.C v 2 (c a) (a1.fn a)
def T7(b:n (Int×Int)):Y q 65 [a1.C b] [] (aw (.fn (.func 113) [] [.Q [v' b]])) []:=by refine Y.K func65 rfl λd=>?_;refine gu [] 5 a C ?_;refine g.freeze 1 0 a a a ?_;refine aZ a C (g.ar a ?_);rfl
def Ua(j:n (Int×Int))(w:c j<=4000000){d:Nat}{b:bI}{l:Loop}{r:an}(k:Nat->an)(s:r=k (c j))(aG:∀u,k u≠.bo)(e:∀h,h<c j->iE (ι:=Unit) q 1 [R h,.p (.agg [.c (.int .i64 (j.getD h (0,0)).1),.c (.int .i64 (j.getD h (0,0)).2)])] [k (h+1),.loop d b l] m (λ_=>[k h,.loop d b l])):
  bk (ι:=Unit) q 113 [.p (.R (.aV 1)),aw (.Q [v' j])] [r,.loop d b l] (λ_=>.ae []) (λ_=>[k 0,.loop d b l]):=by
 subst s;refine bk.bR func113 rfl rfl rfl (g.aT ?_);refine aZ a ua ?_;show b2 q _ (.loop _) _ _ _;refine b2.loop (bq:=Nat) (λi=>i<=c j) (λi=>[(0,.p (.R (.aV 1))),(1,aw (.Q [v' j])),(3,R ((i:Int)-1))]) (λi=>[k i,.loop d b l]) (λi=>i) (c j) (bE _) (eH a E) a ?_;intro i o;rcases i with _|h
 .refine g.aT ?_;refine a6 [-8] a E (g.fL a a ?_);exact⟨(),.inr a,a,qQ (aG 0) (qQ E a),[],.ae [],[],a,a,a,C⟩
 have t:(((h+1:Nat):Int)-1)=(h:Int):=x;rw[t];refine g.aT ?_;refine a6 [8] a ?_ ?_
 .simp only[U,bA,a',a_];omega
 refine g.yield (e h o) a a a a a a λ_=>?_;exact a6 [-18] a RN ⟨h,by omega,by omega,eH a E,a⟩
def ID{a:n (Int×Int)}(b:e<c a):a.drop e=a.getD e (0,0)::a.drop (e+1):=FY
def I9(b:n (Int×Int))(i:c b<=4000000):Y q 32 [a1.C b] [] (aw (iz b)) []:=by
 refine(bk.e6 (ι:=Unit) (ao:=λ_=>[]) (res:=λ_=>aw (iz b)) func32 rfl rfl rfl λl=>?_).toY;have e:a9 q [(65,d8 [a1.C b] (aw (.fn (.func 113) [] [.Q [v' b]])))]:=.cons (eg (T7 b)) .nil;refine dc.seq (b2.bA (g.aT ?_));refine b_ e a C (dc.seq (b2.bA (g.aT ?_)));refine b_ e a C (dc.seq (dc.seq (b2.bA (g.aT ?_))));refine b_ e a a (dc.block ?_);have h:iz (b.drop (c b))=.bb:=by rw[sH];rfl
 refine dc.rangeFunc (pj:=e4 [.Q [v' b]]) (bZ.callee a) (Ua b i (λd=>.cells 72 [.c (iz (b.drop d))]) (by rw[h];rfl) E ?_) (λd=>⟨a,by simp⟩) λd=>⟨.normal,a,?_⟩
 .intro d bp;refine iE.cK (bs:=λ_=>[.cells 109 [.c (.int .i64 (b.getD d (0,0)).1),.c (.int .i64 (b.getD d (0,0)).2)],.M]) ?_ bm (λ_ u k aG=>?_)
  .rw[ID bp];generalize b.drop (d+1)=j;cases j<;>(
    refine iE.intro (u:=p) a a a a (g.aT ?_);refine aZ a C ?_;refine⟨a,a,g.aT ?_⟩;refine gu [] 1 a C ?_;refine g.region ?_;refine gu [] 4 a C ?_;refine g.e5 13 3 a a a ?_;refine aZ a C ?_;refine⟨a,a,(),jT a ?_⟩;simp[iz])
  .match u,aG with
   |0,aG=>cases aG;exact .inl ⟨_,_,a,a⟩
   |1,aG=>exact .inr (.inl aG)
   |u+2,aG=>simp at aG
 .show dc q _ _ _ _ _;refine b2.bA (g.aT ?_);rw[List.drop_zero];cases b<;>(
   refine aZ a C ?_;refine g.ret ⟨(),bX.zero a ?_⟩;simp[iz])
abbrev aee(a:n (Int×Int))(b:Bool):y:=.ae [.R (.c (.C v 2 (c a) (a1.fn a))),.R (.c (.bool b))]
def Wt(d)(k)(h:g9 d=m)(i:hy k=m)(n:c d<=9):Y q 178 [a1.C d,pn k.1 k.2] [] (aee (if c d=9 then d else d++[k]) (decide (c d≠9))) []:=by
 refine Y.K func178 rfl λl=>?_;have b:a9 q [(31,oh),(64,da p' (λe=>bh (hy e)) λ_=>[])]:=.cons tU (.cons (.bd λe _=>I4 e) .nil);refine a8 b [-9,-14] a ?_ ?_
 .simp only[U,a1.m,h,i,fq,a',a_];first|exact a1.U _|(and_intros<;>first|rfl|exact a1.U _)
 refine g.aC (IP d x) [] a ?_;by_cases w:c d=9
 .exact a8 b [19] a o3 O0
 refine a8 b [-19] a ?_ ?_
 .simp only[U,show td.bytes=16 from a,eM,a',a_];exact q_
 have j:=a1.a0 d k;refine g.fZ (dF:=[(4,cz 1 (.C (c d+1) 2 0 (c d+1))),(5,bh m)]) (ao:=[.cells 109 [.c (.int .i64 k.1),.c (.int .i64 k.2)],.q 109 2 (c d+1) (a1.fn (d++[k]))]) ?_ a nX a bJ;exact O0
def VZ(d)(e:c d<=4000000):Y q 209 [a2.C d] [] (R (if c d=0 then 0 else(d.getD (c d-1) (0,[])).1)) []:=by
 refine Y.K func209 rfl λh=>?_;by_cases t:c d=0
 .rw[br t];exact a6 [5] a gA (g.ar a)
 have b:d.getD ((c d:Int)-1).toNat a2.I=d.getD (c d-1) (0,[]):=by rw[show((c d:Int)-1).toNat=c d-1 by omega];rfl
 rw[bl t];refine a6 [-5] a ?_ (g.ar a ds);simp only[U,b,a7,eM,a',a_];exact fu
def kQ(a:Int)(d:n (Int×Int)):Int:=d.foldl (λa b=>max a (b.2+1)) a
def J6(d):∀a b:Int,kQ (max a b) d=max a (kQ b d):=by
 induction d with
 |nil=>intro a b;rfl
 |cons g e h=>
  intro a b;show kQ (max (max a b) (g.2+1)) e=max a (kQ (max b (g.2+1)) e);grind
def Za{z}{d}(a:e<c d):kQ z (d.take (e+1))=max (kQ z (d.take e)) ((d.getD e (0,0)).2+1):=by unfold kQ;grind[ig]
def kz(a:cj):Int:=if c a.2.1=0 then 1 else max 1 ((a.2.1.getD (c a.2.1-1) (0,[])).1+1)
def adr(b):kQ (kz b) b.2.2=dI b:=by
 unfold kz dI;have a:kQ 1 b.2.2=lY b.2.2:=rfl;split
 .exact a
 rw[show max 1 ((b.2.1.getD (c b.2.1-1) (0,[])).1+1)=max ((b.2.1.getD (c b.2.1-1) (0,[])).1+1) 1 by omega,J6,a];omega
def WS(b)(h:dL b)(I:n5 b):Y q 172 [bV b] [] (.ae [.R (.c (.int .i64 (dB b))),.R (.c (.int .i64 (dI b)))]) []:=by
 refine Y.K func172 rfl λF=>?_;have s:=h.a2;have J:=h.a7;have Q:=h.aP;have K:1<=kz b/\kz b<=4000001:=by
  unfold kz;split
  .omega
  exact OY
 apply g.cn [(1,aD 0 0),(4,R (kz b))] [jZ b]
 .intro dw;by_cases e:c b.2.1=0
  .exact bN [-12,905] a ds (dw _ _ a (by simp[kz,e]))
  have D:=I.bc _ (mF (show c b.2.1-1<c b.2.1 by omega) (0,[]));have w:b.2.1.getD ((c b.2.1:Int)-1).toNat bi.I=b.2.1.getD (c b.2.1-1) (0,[]):=RF;refine bN [12] a wK ?_;rw[w];refine g.aN (yP (kz b) a a a (by unfold kz;grind) bJ) a a ?_;exact bN [905] a C kD
 refine cr a C (g.aE 1 (λd=>d<=c b.2.2) (λd:Nat=>[(1,aD 0 0),(4,R (kQ (kz b) (b.2.2.take d))),(24,a1.C b.2.2),(25,R (c b.2.2)),(26,R d)]) (λd=>[jZ b]) (λd=>c b.2.2-d) 0 a ?_ a ?_ a x ?_)
 .simp[kQ]
 .simp
 intro d n;have j:∀d,1<=kQ (kz b) (b.2.2.take d)/\kQ (kz b) (b.2.2.take d)<=4000001:=λd=>by have k:=tc (b.2.2.take d) λA B=>I.aP A (hh B);have u:kQ 1 (b.2.2.take d)=lY (b.2.2.take d):=rfl;rw[show kz b=max (kz b) 1 by omega,J6,u];omega
 have k:=j d;have M:=j (d+1);by_cases e:d<c b.2.2
 .have D:=I.aP _ (mF e (0,0));have w:b.2.2.getD (d:Int).toNat a1.I=b.2.2.getD d (0,0):=N;have t:=Za (z:=kz b) e;refine bN [27] a wK ?_;rw[w];refine g.aN (yP (kQ (kz b) (b.2.2.take (d+1))) a a a t.symm m3) a a ?_;refine cr a bJ (g.ax (d+1) a E ?_ e x);simp
 obtain rfl:d=c b.2.2:=x;rw[c_,adr]at k⊢;have i:dB b=(if c b.1=0 then 0 else(b.1.getD (c b.1-1) (0,[])).1)+1:=by unfold dB;split<;>rfl
 have l:-4000000<=dB b-1/\dB b-1<=4000000:=by
  rw[i];split
  .omega
  exact Rf
 have o:=VZ (q:=q) b.1 s;have r:=Jm (q:=q) b;rw[i]at l⊢;generalize(if c b.1=0 then 0 else(b.1.getD (c b.1-1) (0,[])).1)=S at *;have y:a9 q [(136,d8 [bV b] (bV b)),(209,d8 [a2.C b.1] (R S))]:=.cons (eg r) (.cons (eg o) .nil);refine bN [-27] a E (g.aB ?_);refine cK y a ?_ (g.ar a);exact bJ
abbrev qX(a:n bB):O:=.C v 1 (c a) (bR.fn a)
def Ul(d):Y q 173 [bR.C d,R 4] [] (aw (.fn (.func 210) [] [.Q [qX d],.Q [.int .i64 4]])) []:=by refine Y.K func173 rfl λb=>?_;refine gu [] 6 a C ?_;refine g.freeze 2 0 a a a ?_;refine g.freeze 3 1 a a a ?_;exact a6 [-6] a E (g.ar a nX)
def gF(b:n bB)(a:Nat):n bB:=(b.drop (4*a)).take 4
def Uk(d)(W:c d<=4000000){i}{N0}{il}{w yN}(z)(T:z<=(c d+3) / 4)(e:Nat->n an)(u)(Y:∀b,c (e b)=i)(Q:∀b,jU (e b++[.loop N0 il w])=m)(M:jU (u++[.loop N0 il yN])=m)(h:∀b,b<z->4*b<c d->iE (ι:=Unit) q i [bR.C (gF d b)] (e b++[.loop N0 il w]) m (λ_=>e (b+1)++[.loop N0 il w]))(k:4*z<c d->iE (ι:=Unit) q i [bR.C (gF d z)] (e z++[.loop N0 il w]) v (λ_=>u++[.loop N0 il yN])):
  bk (ι:=Unit) q 210 [.p (.R (.aV i)),aw (.Q [qX d]),aw (.Q [.int .i64 4])] (e 0++[.loop N0 il w]) (λ_=>.ae []) (λ_=>if 4*z<c d then u++[.loop N0 il yN]else e z++[.loop N0 il w]):=by
 refine bk.bR func210 rfl rfl rfl (g.aT ?_);refine aZ a C ?_;show b2 q _ (.loop _) _ _ _;refine b2.loop (bq:=Nat) (λb=>b<=z) (λb=>[(0,.p (.R (.aV i))),(1,aw (.Q [qX d])),(2,aw (.Q [.int .i64 4])),(4,R (4*b:Nat))]) (λb=>e b++[.loop N0 il w]) (λb=>z-b) 0 (g0 _) ?_ a ?_
 .exact .cons a (eH a E)
 intro b F;refine g.aT ?_;by_cases l:4*b<c d
 .have B:U (ji (c d) (f ((4*b:Nat):Int)) p):=by simp only[ji,U];omega
  have K:bU (c d) p-bU 0 (f ((4*b:Nat):Int))=c d-4*b:=bJ;refine a6 [9,903] a bw ?_;let t:Nat->y:=λo=>([R 4,bR.C d,R (4*b:Nat),aw (.C v 1 (bU (c d) p-bU 0 (f ((4*b:Nat):Int))) (fA (bU 0 (f ((4*b:Nat):Int))) (bR.fn d))),R (bU (c d) p-bU 0 (f ((4*b:Nat):Int)):Nat),R (min 4 (c d-4*b):Nat),R (min 4 (c d-4*b):Nat)]:n y).getD o .any;refine g.cj b5 t (lm (λ_ _ _=>e b++[.loop N0 il w]) 100 101 102) o2 o2 o2 o2 ?_ ?_
  .exact⟨.aD,
   .aD,
   .aD,
   b4.bN a a a (λ_ _ _=>aJ.eval (bg:=[]) ba a9.nil a B),
   .aD,
   b4.bN a a a (λ_ _ _=>aJ.a1 (λ_ _ _ _=>iZ a) (yR _ a a a N m3)),
   .aD,C⟩
  intro y X;show g q _ _ _ _ _ (e b++[.loop N0 il w]);have S:(((4*b:Nat):Int)+((min 4 (c d-4*b):Nat):Int))=((4*b+min 4 (c d-4*b):Nat):Int):=x;refine aZ a ua (g.aN (a0.jW ba a a a a (j:=c d) (V:=bR.fn d) (eU:=v) (λ_ _ bb=>b8 bb) a a a x x x x) a a ?_);have O:c (gF d b)=min 4 (c d-4*b):=by simp[gF]
  refine fc.le (dF:=[(0,.p (.R (.aV i))),(19,.p (.R (.aV i))),(1,aw (.Q [qX d])),(2,aw (.Q [.int .i64 4])),(4,R (4*b:Nat)),(28,bR.C (gF d b))]) ?_ (.cons a (.cons a (eH a ?_)))
  .have I:(e b++[an.loop N0 il w])[i]?=f (.loop N0 il w):=N;rcases d6 b z with A|A
   .refine g.yield (h b A l) a a a (N0:=N0) (il:=il) (bb:=w) I a a λ_=>?_;exact a6 [-30] a RN ⟨b+1,by omega,by omega,.cons a (eH a bw),a⟩
   obtain rfl:b=z:=x;refine g.yield (k l) a a a (N0:=N0) (il:=il) (bb:=w) I a a λ_=>?_;exact a6 [30] a E (g.ret ⟨(),.inl a,(br l).symm,by grind,[],.ae [],[],a,a,a,C⟩)
  simp only[U.Y,U,a',a_];have J:((4*b:Nat):Int).toNat=4*b:=x;have D:(((4*b:Nat):Int)+((min 4 (c d-4*b):Nat):Int)).toNat-((4*b:Nat):Int).toNat=c (gF d b):=N;refine⟨D,λo s=>?_⟩;rw[D]at s;rw[J];show bR.a9 (d.getD (4*b+o) bR.I)=bR.a9 ((gF d b).getD o bR.I);congr 1;simp only[gF,al];grind
 obtain rfl:b=z:=x;refine a6 [-9] a bw (g.fL a a ?_);exact⟨(),.inr a,(bl l).symm,by grind,[],.ae [],[],a,a,a,C⟩
def nx(d:Int)(b:cj)(e:n bB)(a:Nat):Bool:=(l8 (dB b+a) d (gF e a)).2&&!(c b.1+a==20)
def mY(b:Nat->Bool):Nat->Nat->Nat
 |0,a=>a
 |d+1,a=>if b a=m then mY b d (a+1)else a
def EE(d:Nat->Bool):∀b a,a<=mY d b a/\mY d b a<=a+b/\(∀e,a<=e->e<mY d b a->d e=m)/\(mY d b a<a+b->d (mY d b a)=v)
 |0,a=>⟨bE _,bE _,λe g h=>absurd g (by simp[mY]at h;omega),λi=>absurd i (by simp[mY])⟩
 |b+1,a=>by obtain⟨g,h,k,j⟩:=EE d b (a+1);rw[mY];grind
def js(b:Int)(g:cj)(d:n bB)(e:Nat):n cb:=(aB e).map λa:Nat=>(l8 (dB g+a) b (gF d a)).1
theorem DE(h)(b)(d)(j):c (js h b d j)=j:=by simp[js]
def aa7(h)(b)(d)(j):js h b d (j+1)=js h b d j++[(l8 (dB b+(j:Nat)) h (gF d j)).1]:=by simp[js,List.range_succ]
def Lj{b}(a:n5 b):-4000000<=dB b/\dB b<=4000001:=by
 unfold dB;split
 .omega
 rename_i d;have:=a.a2 _ (C' d (0,[]));omega
def pL(d:Int)(a:cj)(b:Int)(h:n cZ):cj×Option bB:=
 let e:=gw d h (e7 a.1);let g:=mY (nx d a e) ((c e+3) / 4) 0
 if g<(c e+3) / 4 then(([],[],[]),f [112,97,99,107,115])
 else if 20<dI a then(([],[],[]),f [115,110,97,112,115,104,111,116,115])
 else if c a.2.2=9 then(([],[],[]),f [104,101,97,100,115])
 else((a.1++js d a e g,a.2.1++[gU (dI a) d h],a.2.2++[(b,dI a)]),p)
def TS:Option bB->E1
 |none=>.R (.c .br)
 |some a=>.R (.c (.cl 182 (.Q [.T a])))
def Na(a:cj×Option bB):y:=.ae [.agg [.c (tK a.1.1),.c (tL a.1.2.1),.c (hU a.1.2.2)],TS a.2]
abbrev adG(d:cj)(a:Int)(e:n cZ)(b:n bB):bI:=[(2,R a),(3,bC.C e),(4,aD 2 0),(5,aD 3 0),(8,aD 4 0),(9,aD 5 0),(10,aD 9 0),(11,aD 10 0),(12,R (dI d)),(33,aw (.fn (.func 210) [] [.Q [qX b],.Q [.int .i64 4]]))]
abbrev we(g e:aq×Z)(i:Int)(b:cj)(h:O)(a:n cb)(d:Int):n an:=ij g e++[.cells 27 [.c (tK b.1),.c (tL b.2.1),.c (hU b.2.2)],.cells 3 [.c (.int .i64 i)],.cells 27 [cD,cD,cD],.cells 179 [.c h],
 .q 105 2 (c a) (a2.fn a),.q 129 2 (c b.2.1) (bi.fn b.2.1),.M,.cells 27 [.S 6 (.C (c a) 2 0 (c a)),.S 7 (.C (c b.2.1) 2 0 (c b.2.1)),.c (hU b.2.2)],.cells 3 [.c (.int .i64 d)]]
def MU{r i}{b}{l k}{ab d}{bS a}{n g}(e)(j)(aG:(we r i h b l ab bS++[.loop D F n])[e]?=f j):As 12 (we r i h b k d a++[.loop D F g]) e j:=by
 rcases e with _|_|_|_|_|_|_|_|_|_|_|_|e<;>first
  |(cases aG;exact .inl ⟨_,_,rfl,rfl⟩)
  |(cases aG;exact .inr (.inr (.inl ⟨_,_,_,_,rfl,rfl⟩)))
  |(cases aG;exact .inr (.inr (.inr ⟨by grind,by grind⟩)))
  |simp_all
def Xu(s i)(h)(b)(e)(o)(bT:cB h=m)(w:dL b)(ed:n5 b)(B:dX o=m)(P:c (dT b.1)<=100000)(G:kT (e7 b.1) (c (e7 b.1))=m)(Z:g9 b.2.2=m)(aL:e=1∨e=2)(ah:1<=dI b):
  Y q 147 [bV b,R h,R e,bC.C o] (ij s i) (Na (pL h b e o)) (ij s i):=by
 obtain⟨M,n⟩:∃M,M=pL h b e o:=⟨_,rfl⟩;rw[<-n];unfold pL at n;simp only at n;refine(bk.je (ι:=Unit) (ao:=λ_=>ij s i) (res:=λ_=>Na M) func147 rfl rfl rfl ?_).toY
 refine dc.seq (b2.bA (g.aT ?_));refine aZ a C (dc.seq (b2.bA (g.aT ?_)));refine aZ a C (g.aC (Jr b w.a2 w.bu w.a7 w.bx w.aP) [] a (aZ a C (dc.seq (b2.bA (g.aT ?_)))));refine g.bC 8 a a a E (by simp;exact⟨C,C⟩) (aZ a C (g.aC (WS b w ed) [] a (aZ a C (dc.seq (dc.seq (b2.bA (g.aT ?_)))))));generalize ak:e7 b.1=d at *;have ab:a9 q [(175,d8 [a2.C b.1] (a1.C d)),(173,d8 [bR.C (gw h o d),R 4] (aw (.fn (.func 210) [] [.Q [qX (gw h o d)],.Q [.int .i64 4]])))]:=.cons (eg (ak▸VG b.1 w.a2 P)) (.cons (eg (Ul _)) .nil);have aG:c d<=4000000:=by grind[Kj]
 refine g.gk b5 [R h,bC.C o,aD 2 0,a2.C b.1,a1.C d,bR.C (gw h o d),aw (.fn (.func 210) [] [.Q [qX (gw h o d)],.Q [.int .i64 4]])] 12 rfl rfl rfl rfl rfl ⟨aJ.x,aJ.x,aJ.x,aJ.x,
  aJ.eval (bg:=[]) ba ab a a,aJ.dK (dx.dp (XJ s i h o d bT B G aG).tocF [0,1] a a a a a a a bm a bm),aJ.eval (bg:=[]) ba ab a a,C⟩ ?_
 refine aZ a C (dc.block ?_);refine dc.bf (adG b e o (gw h o d)) (we s i h b .br (b.1++js h b (gw h o d) 0) (dB b+(0:Nat))) a E a ?_ ?_
 .simp[js];exactλaA _=>rfl
 have ad:∀A∈gw h o d,cE A=m:=(wa (sd B)).1;have ag:c (gw h o d)<=4000000:=fM (wa (sd B)).2 b9;generalize gw h o d=j at *;obtain⟨au,av,I,ar⟩:=EE (nx h b j) ((c j+3) / 4) 0;have aK:=w.a2;generalize V:mY (nx h b j) ((c j+3) / 4) 0=k at *;refine dc.jN (pj:=e4 [.Q [qX j],.Q [.int .i64 4]]) (bZ.callee a)
  (Uk (yN:=?afX) j ag k x (λu=>we s i h b .br (b.1++js h b j u) (dB b+(u:Nat))) (we s i h b (.cl 182 (.Q [.T [112,97,99,107,115]])) (b.1++js h b j k) (dB b+(k:Nat))) (λu=>rfl) (λu=>rfl) a (λu J L=>?Zf) λaI=>?Zg) λaA=>?bT
 case Zg=>
  have Q:=ar x;have S:=Jf (q:=q) s i (dB b+(k:Nat)) h (gF j k) NW bT (λA F=>ad A (sz (hh F))) (by simp[gF];omega);have ae:=DE h b j k;generalize an:l8 (dB b+(k:Nat)) h (gF j k)=r at *;refine iE.cK (bs:=λ_=>[.cells 105 [.c (.int .i64 r.1.1),.c (.C v 2 (c r.1.2) (bH.fn r.1.2))],.M]) (iE.intro (u:=f .ret) a a a a (g.aT ?_)) ?_ ?_
  .refine aZ a C ⟨a,a,g.aT ?_⟩;refine aZ a C (g.aC S [0,1] a ?_);have aa:c (b.1++js h b j k)=c b.1+k:=N;have D:r.2=m->c b.1+k=20:=λax=>by simpa[nx,an,ax]using Q
   cases y:r.2 with
   |false=>
    refine a6 [44,49,907] a (by simp[y]) (g.region ?_);refine gu [] 3 a C (g.e5 52 13 a a a ?_);refine aZ a C (g.ret ?_);refine⟨a,a,(),jT a ?_⟩;simp[U.Y,U,a',a_];and_intros<;>first|exact bt.same|exact bt.nil|rfl
   |true=>
    have:=D y;refine a6 [-44,49,907] a bJ (g.region ?_);refine gu [] 3 a C (g.e5 52 13 a a a ?_);refine aZ a C (g.ret ?_);refine⟨a,a,(),jT a ?_⟩;simp
  .exact λ_=>rfl
  exactλ_=>MU
 case Zf=>
  have aF:=I u (g0 _) J;have S:=Jf (q:=q) s i (dB b+(u:Nat)) h (gF j u) NW bT (λA F=>ad A (sz (hh F))) (by simp[gF];omega);have ae:=DE h b j u;have W:=aa7 h b j u;obtain⟨aq,aE⟩:(l8 (dB b+(u:Nat)) h (gF j u)).2=m/\¬(c b.1)+u=20:=by simpa[nx]using aF
  generalize l8 (dB b+(u:Nat)) h (gF j u)=r at *;have aa:c (b.1++js h b j u)=c b.1+u:=N;have ai:b.1++js h b j (u+1)=(b.1++js h b j u)++[r.1]:=N;generalize b.1++js h b j u=l at *;refine iE.cK (bs:=λ_=>[.cells 105 [.c (.int .i64 r.1.1),.c (.C v 2 (c r.1.2) (bH.fn r.1.2))]]) (iE.intro (u:=p) a a a a (g.aT ?_)) ?_ ?_
  .refine aZ a C ⟨a,a,g.aT ?_⟩;refine aZ a C (g.aC S [0,1] a ?_);have mm:=a2.a0 l r.1;have az:=Lj ed;refine a6 [-44,-49] a ?_ ?_
   .simp only[U,a7,aq,show nB.bytes=32 from a,aa,eM,d',fq,a',a_];omega
   refine⟨a,a,(),jT a ?_⟩;have aP:c (l++[r.1])=c l+1:=E;have H:dB b+(u:Int)+1=dB b+((u+1:Nat):Int):=x;rw[ai,aP,<-H];simp only[U.Y,U,a',a_];exact Qw
  .exact λ_=>rfl
  exactλ_=>MU
 case bT=>
  by_cases L:4*k<c j
  .rw[br L];refine⟨_,a,by simp,.ret,a,?_⟩;rw[br (show k<(c j+3) / 4 by omega)]at n;subst n;simp only[uU,wn];refine .freeze 8 4 a a a (.freeze 9 5 a a a (.of ⟨(),k7.cells ba [0,1] a ?_ a a a qx⟩));simp
  rw[bl L];refine⟨_,a,by simp,.normal,a,?_⟩;rw[bl (show¬k<(c j+3) / 4 by omega)]at n;show dc q _ _ _ _ _;refine b2.bA (g.aT ?_);by_cases D:20<dI b
  .rw[br D]at n;subst n;refine a6 [63,911] a bw (g.region ?_);refine gu [] 3 a C (g.e5 66 13 a a a ?_);exact PF
  rw[bl D]at n;have aj:c b.2.2<=9:=by simp only[g9,cC,bA]at Z;omega
  refine a6 [-63] a bw (g.aC (XK s i (dI b) h o ⟨ah,by omega⟩ bT B) [0,1] a ?_);have mm:=bi.a0 b.2.1 (gU (dI b) h o);have aH:=w.a7;refine a6 [914] a ?_ ?_
  .simp only[U,show rP.bytes=32 from a,a',a_];omega
  refine g.region ?_;refine aZ a C (g.aC (Wt b.2.2 (e,dI b) Z (by simp only[hy,cC,bA];omega) aj) [] a ?_);by_cases z:c b.2.2=9
  .rw[br z]at n;subst n;refine a6 [91,916] a (by simp[z]) (g.region ?_);refine gu [] 3 a C (g.e5 94 14 a a a ?_);exact PF
  rw[bl z]at n;subst n;simp only[bl z];refine a6 [-91,918] a (by simp[z]) ?_;have ae:c (b.1++js h b j k)=c b.1+k:=by grind[DE]
  generalize b.1++js h b j k=l at *;generalize X:b.2.1++[gU (dI b) h o]=t at *;have O:c t=c b.2.1+1:=N;generalize T:b.2.2++[(e,dI b)]=K at *;refine g.fZ (dF:=[(8,aD 4 0),(9,aD 5 0),(10,aD 9 0)]) (ao:=ij s i++[.cells 27 [.c (tK b.1),.c (tL b.2.1),.c (hU b.2.2)],.cells 3 [.c (.int .i64 h)],.cells 27 [cD,cD,cD],.cells 179 [.c .br],.q 105 2 (c l) (a2.fn l),.q 129 2 (c t) (bi.fn t),.M,.cells 27 [.S 6 (.C (c l) 2 0 (c l)),.S 7 (.C (c t) 2 0 (c t)),.c (hU K)],.cells 3 [.c (.int .i64 (dB b+(k:Nat)))],.M,.bo,.cells 129 [.c (.int .i64 (gU (dI b) h o).1),.c (.C v 2 (gU (dI b) h o).2.length (cq.fn (gU (dI b) h o).2))]]) ?_ a ?_ a ?_
  .refine g.bC 6 a a a E E (g.bC 7 a a a E E (aZ a C (g.ret (.freeze 8 4 a a a (.freeze 9 5 a a a (.of ⟨(),k7.cells ba [0,1] a ?_ a a a qx⟩))))));simp[hA]
  .simp
  simp only[U.Y,U,O,a',a_];exact Qw
end
structure j8(b:cj):Prop where
 eO:c b.1<=20
 dP:∀S∈b.1,(1<=S.1/\S.1<=99)/\c S.2<=4
 eB:c b.2.1<=21
 c6:∀k∈b.2.1,(1<=k.1/\k.1<=20)/\c k.2<=6/\∀X∈k.2,c X.2<=40
 f':c b.2.2<=9
 fs:∀t∈b.2.2,1<=t.2/\t.2<=20
def ta{a g:Type}{ae:a->n g}{j}:∀{d:n a},(∀b∈d,c (ae b)<=j)->c (d.flatMap ae)<=j*c d
 |[],_=>by simp
 |b::d,e=>by have k:=e b jf;have l:=ta (d:=d) λi h=>e i (nf _ h);grind[Nat.mul_succ]
def wo{a:eh}(d:c a.2<=6/\∀b∈a.2,c b.2<=40):c (eb a.2)<=240:=by have:=ta (ae:=λb:m8=>b.2) (j:=40) d.2;unfold eb;omega
def j8.fW{b:cj}(a:j8 b):n6 b:=by
 have i:=a.eO;have k:=a.eB;have j:c (dg b.1)<=4*c b.1:=ta λg d=>by rw[k8];exact(a.dP g d).2
 have l:c (hi b.2.1)<=240*c b.2.1:=ta λh e=>wo (a.c6 h e).2;refine⟨⟨by omega,λh e=>?_,by omega,by omega⟩,λg d=>?_,by omega⟩
 .have:=(a.c6 h e).2;grind
 have:=(a.dP g d).2;omega
def j8.dZ{b}(d:j8 b):dL b:=by have a:=d.fW;have e:=d.f';exact⟨a.fR,a.c7,a.fb,a.d_,by omega⟩
def j8.fc{b}(e:j8 b):n5 b:=
 ⟨λd a=>by have:=(e.dP d a).1;omega,λd a=>by have:=(e.c6 d a).1;omega,λd a=>by have:=e.fs d a;omega⟩
def j8.j9{b}(a:j8 b):c (dT b.1)<=100000:=by
 have e:=a.eO;have:c (R1.dT b.1)<=4*c b.1:=ta λg d=>by rw[k8];exact(a.dP g d).2
 omega
def adf{k}{ab}(g:(e0 h k ab).isSome=m):c k.2<=6/\∀b∈k.2,c b.2<=40:=by
 unfold e0 at g;split at g
 .rename_i i;simp only[cC]at i;obtain⟨⟨_,n⟩,j⟩:=i;refine⟨?_,λb l=>?_⟩
  .simp only[dX,cC,bA,fN,k8]at j;omega
  have a:=List.all_eq_true.1 n b l;unfold hk at a;split at a
  .cases a
  rename_i o d;split at a
  .cases a
  rename_i r e;have q:c o=c b.2:=by unfold h6 at d;split at d<;>cases d;simp
  unfold jO at e;split at e
  .rename_i i;simp[cC,gZ,fG,bA]at i;grind[vR]
  grind
 grind
def mq.gG{b}(a:mq h b):j8 b:=by
 have k:c b.2.1<=20:=by have:=xq 1 a.dv λe d=>(a.a7 e d).1;omega
 have g:=a.eF;simp[g9,cC,bA,f']at g;refine⟨a.len,λS i=>⟨(a.c7 S i).df,(a.c7 S i).len.2⟩,by omega,λe d=>⟨(a.a7 e d).1,adf (a.a7 e d).2⟩,g.2,λl j=>?_⟩;have:=(sN (S:=hy) (I:=(0,0))).1 g.1 l j;simp[hy,cC,bA]at this;omega
def Zb{d}(b:∀a∈d,-4000000<=a.2/\a.2<=4000000):1<=lY d:=(tc d b).1
def ada{b}(a:j8 b):1<=dI b:=by have:=Zb a.fc.aP;unfold dI;split<;>omega
def abN{b}(d:j8 b):1<=dB b:=by
 unfold dB;split
 .omega
 rename_i a;have:=(d.dP _ (C' a (0,[]))).1;omega
def j8.dh{b}{o}{cv}(g:j8 b)(B:c b.2.1<=20)(l:dX o=m)(r:fO h b o=v):j8 (hV h b cv o):=by
 simp[fO,Bool.or_eq_false_iff,dv]at r;obtain⟨E,C,I,D⟩:=r;have z:=ada g;have F:=abN g;have x:=E0.1 l;unfold hV;refine⟨by grind,λa w=>?_,by grind,λa w=>?_,by grind,λa w=>?_⟩
 .rcases gl.1 w with w|w
  .exact g.dP a w
  obtain⟨i,A,n,e,q,s,t,rfl⟩:=Ln h _ _ _ (wa (h:=h) (d:=e7 b.1) (sd l)).1 a w;have e:i<dB b+c (pB h b o):=e;exact⟨⟨by show 1<=i;omega,by show i<=99;omega⟩,by grind[abg]⟩
 .rcases gl.1 w with w|w
  .exact g.c6 a w
  rw[gY]at w;subst w;refine⟨⟨z,by show dI b<=20;omega⟩,by show(o.map _).length<=6;grind,λJ u=>?_⟩;obtain⟨j,r,rfl⟩:=k_.1 u;have k:=(x.1 j r).2;simp[fG,cC,bA]at k;have y:=vR j.2;show((cy j.2).map _).length<=40;grind
 rcases gl.1 w with w|w
 .exact g.fs a w
 grind
structure jb(b:cj):Prop extends j8 b where
 dM:b.1.Pairwise λS bc=>S.1<bc.1
 dv:b.2.1.Pairwise λk X=>k.1<X.1
 fH:∀t∈b.2.2,1<=t.1/\t.1<=2
def jb.nil:jb ([],[],[]):=⟨⟨by simp,by simp,by simp,by simp,by simp,by simp⟩,by simp,by simp,by simp⟩
def jb.dG{b}(a:jb b):o5 b:=⟨a.dZ,a.dM,a.fc.bc,a.fH⟩
def jb.j3{b}(a:jb b):c b.2.1<=20:=by have:=xq 1 a.dv λe d=>(a.c6 e d).1;omega
def GM{ae:α->Int}{d}(i:d.Pairwise λa b=>ae a<ae b)(h:c d≠0)(e):∀g∈d,ae g<=ae (d.getD (c d-1) e):=by grind[List.getElem_of_mem,List.pairwise_iff_getElem]
def jb.dh{h}{b}{o}{cv}(d:jb b)(n:dX o=m)(r:1<=cv/\cv<=2)(l:fO h b o=v):jb (hV h b cv o):=by
 refine⟨d.toj8.dh d.j3 n l,?_,?_,λe a=>?_⟩
 .refine pe.2 ⟨d.dM,Ll h _ _ _,λe a k g=>?_⟩;have q:e.1<dB b:=by
   unfold dB;split
   .grind
   rename_i i;have:=GM (ae:=λj:cb=>j.1) d.dM i (0,[]) e a;omega
  have:=D1 h _ _ _ k g;omega
 .refine pe.2 ⟨d.dv,by simp,λe a k g=>?_⟩;rw[gY]at g;subst g;show e.1<dI b;unfold dI;split
  .grind
  rename_i i;have:=GM (ae:=λj:eh=>j.1) d.dv i (0,[]) e a;omega
 rcases gl.1 a with a|a
 .exact d.fH e a
 grind
def jb.j5{b}(a:jb b)(e:eh->Bool):jb (b.1,b.2.1.filter e,b.2.2):=
 ⟨⟨a.eO,a.dP,fM (kI _ _) a.eB,λg d=>a.c6 g (kJ.1 d).1,a.f',a.fs⟩,a.dM,a.dv.filter _,a.fH⟩
def jb.step{b}(a:jb b)(bS)(ct):jb (fi bS ct b.1,b.2):=by
 refine⟨⟨?_,λh d=>?_,a.eB,a.c6,a.f',a.fs⟩,?_,a.dv,a.fH⟩
 .have:c (fi bS ct b.1)<=c b.1:=by unfold fi;grind
  exact fM this a.eO
 .obtain⟨e,r,rfl,_⟩:=MO d;have:=a.dP e r;grind[Dy,yJ]
 show (fi bS ct b.1).Pairwise _;unfold fi;refine List.Pairwise.filter _ (xb.2 (a.dM.imp λg=>?_));grind[yJ]
structure fo(j:Nat)(J:dW):Prop where
 bc:jb J.1
 b':c J.2.1<=j
 cL:c J.2.2<=20
def fo.mono{d}(a:fo j d)(b:j<=z):fo z d:=⟨a.bc,fM a.b' b,a.cL⟩
abbrev k0:dW:=(([],[],[]),[],[])
def fo.nil{j}:fo j k0:=⟨jb.nil,by simp,by simp⟩
def kL(e:Int)(a:cj)(d:n Int):dW×Bool:=
 if hX e a=m then(((a.1,a.2.1.filter λb=>d.contains b.1,a.2.2),h9 (a.2.1.filter λb=>d.contains b.1),a.1.map (·.1)),m)else(k0,v)
def aeX{b}(a:j8 b):c (hi b.2.1)<=240*21:=by have g:=a.eB;have h:c (hi b.2.1)<=240*c b.2.1:=ta λe d=>wo (a.c6 e d).2;omega
def fo.iw{b}{Dr}(e:jb b):fo 6000 (kL h b Dr).1:=by
 unfold kL;split
 .have d:=e.j5 λa=>Dr.contains a.1;refine⟨d,?_,by simp only[k8];exact e.eO⟩;have g:=yO (b.2.1.filter λa=>Dr.contains a.1) _ (bE _);have i:=aeX d.toj8;grind
 exact fo.nil
def fo.step{j}{b}(a:fo j b):fo j (jx b):=by
 unfold jx;split
 .exact a
 rename_i e g d;refine⟨a.bc.step _ _,a.b',?_⟩;have:=a.cL;grind
def r5(d:Int)(b:dW)(a:Int)(e:n cZ):dW:=(hV d b.1 a e,(gI (gU (dI b.1) d e).2).foldl e8 b.2.1,b.2.2)
def rX(b:Int)(e:dW)(a:Int)(d:n cZ):Bool:=hd b e&&decide (1<=a/\a<=2)&&dX d
def fo.dh{h}{j}{a}{o}{cv}(b:fo j a)(i:dX o=m)(d:1<=cv/\cv<=2)(g:fO h a.1 o=v):fo (j+240) (r5 h a cv o):=by have e:=b.bc.dh i d g;refine⟨e,?_,b.cL⟩;have k:=qy a.2.1 (gI (gU (dI a.1) h o).2);have l:=tv (gU (dI a.1) h o).2;have q:=wo (e.c6 (gU (dI a.1) h o) (by simp[hV])).2;have n:=b.b';show((gI _).foldl e8 a.2.1).length<=_;omega
def fo.j1{a}(b:fo j a):p8 a.1:=b.bc.fW.top8
def gy(b:n (Int×Int)):Int:=b.foldl (λd a=>64*d+21*a.1+a.2) 0
def jt(a:Int×Int)(b:n (Int×Int)):(Int×Int)×Int:=
 if g9 b=m/\a.1<=c b/\0<=a.1 then
  if gy (b.take a.1.toNat)=a.2 then(((c b:Int),gy b),0)else(a,2)
 else(a,1)
def EH{b:n (Int×Int)}(e:∀d∈b,(1<=d.1/\d.1<=2)/\1<=d.2/\d.2<=20):∀a,0<=gy (b.take a)/\gy (b.take a)<((64 ^ a:Nat):Int)
 |0=>by simp[gy]
 |a+1=>by
  have h:=EH e a;by_cases g:a<c b
  .have i:gy (b.take (a+1))=64*gy (b.take a)+21*(b.getD a (0,0)).1+(b.getD a (0,0)).2:=by unfold gy;grind[ig]
   grind
  grind[List.take_of_length_le]
def KC{d}(b:g9 d=m):(∀a∈d,(1<=a.1/\a.1<=2)/\1<=a.2/\a.2<=20)/\c d<=9:=by simp only[g9,cC,bA,f']at b;refine⟨λa e=>?_,b.2⟩;have:=(sN (S:=hy) (I:=(0,0))).1 b.1 a e;simpa only[hy,cC,bA]using this
def zx{d}(g:∀a∈d,(1<=a.1/\a.1<=2)/\1<=a.2/\a.2<=20)(h:c d<=9)(e):0<=gy (d.take e)/\gy (d.take e)<18014398509481984:=by
 rcases Nat.le_total e 9 with b|b
 .have i:=EH g e;have:64 ^ e<=64 ^ 9:=AV x b;grind
 rw[Gl x];have i:=EH g (c d);rw[c_]at i;have:64 ^ c d<=64 ^ 9:=AV x h;grind
abbrev S8:n (Nat×bK):=[(128,BR)]
def XN(h)(b)(y:n6 b):Y (ag.aJ T) 138 [bV b,R h] [] (bh ((aB (c b.2.1)).all (ly h b))) []:=by
 refine Y.K func138 rfl λM=>?_;have K:=y.fb;have F:=y.d_;have i:a9 (ag.aJ T) S8:=.cons M8 .nil;refine b_ i a C (g.aE 1 (λe=>e<=c b.2.1/\∀u,u<e->ly h b u=m) (λe:Nat=>[(1,R h),(2,aD 0 0),(10,bi.C b.2.1),(11,R (c b.2.1)),(12,R e)]) (λ_=>[zo b]) (λe=>c b.2.1-e) 0 a E a E a ⟨by omega,by omega⟩ ?_);rintro e ⟨A,n⟩;by_cases t:e<c b.2.1
 .have j:b.2.1.getD e bi.I=b.2.1.getD e (0,[]):=rfl;have s:b.2.1.getD (e-1) bi.I=b.2.1.getD (e-1) (0,[]):=rfl;have k:ly h b e=(decide (1<=(b.2.1.getD e (0,[])).1/\(b.2.1.getD e (0,[])).1<=20)&&kg (·.1) (0,[]) b.2.1 e&&(e0 h (b.2.1.getD e (0,[])) b.1).isSome):=rfl;have D:=qi (ae:=λl:eh=>l.1) (I:=(0,[])) (d:=b.2.1) (e:=e);have B:=F _ (oC (I:=(0,[])) t);generalize b.2.1.getD e (0,[])=l at *;generalize b.2.1.getD (e-1) (0,[])=r at *;by_cases o:1<=l.1
  rotate_left
  .refine a8 i [13,20,25,40] a ?_ (g.aX (bX.zero a ?_))
   .simp[-al,j];omega
   exact j5
  by_cases q:l.1<=20
  rotate_left
  .refine a8 i [13,-20,25,40] a ?_ (g.aX (bX.zero a ?_))
   .simp[-al,j];omega
   exact j5
  rw[ff ⟨o,q⟩,fs]at k;by_cases w:e=0
  .subst w;rw[show kg (·.1) (0,[]) b.2.1 0=m from a,fs]at k;cases z:(e0 h l b.1).isSome with
   |false=>
    refine a8 i [13,-20,-25,-27,-40,50] a OI (g.aX (bX.zero a ?_));rw[kK t (k.trans z)];simp
   |true=>
    refine a8 i [13,-20,-25,-27,-40,-50] a ?_ (g.ax 1 a E E ⟨t,iJ n (k.trans z)⟩ x);exact OI
  rw[D w]at k;by_cases J:r.1<l.1
  rotate_left
  .refine a8 i [13,-20,-25,28,38,40] a ?_ (g.aX (bX.zero a ?_))
   .simp[-al,j,s,a7];omega
   exact j5
  rw[ff J,fs]at k;cases z:(e0 h l b.1).isSome with
  |false=>
   refine a8 i [13,-20,-25,28,-38,-40,50] a QX (g.aX (bX.zero a ?_));rw[kK t (k.trans z)];simp
  |true=>
   refine a8 i [13,-20,-25,28,-38,-40,-50] a ?_ (g.ax (e+1) a E E ⟨t,iJ n (k.trans z)⟩ x);exact QX
 obtain rfl:e=c b.2.1:=x;rw[f'.2 n];refine a8 i [-13] a E (g.aB ?_);exact b_ i a C (g.ar a)
def adC(h)(b):hX h b=(cB h&&tA h b&&(aB (c b.2.1)).all (ly h b)&&g9 b.2.2):=by unfold hX tA;cases(aB (c b.1)).all (nN h b.1)<;>cases decide (dg b.1).Nodup<;>cases(aB (c b.2.1)).all (ly h b)<;>cases cB h<;>cases g9 b.2.2<;>cases decide (c b.1<=20)<;>rfl
abbrev S0:bK:=eu pf c1 (λb a=>bh (tA a b)) λb a=>[cB a=m,n6 b]
abbrev S6:bK:=eu pf c1 (λa b=>bh ((aB (c a.2.1)).all (ly b a))) λa _=>[n6 a]
def XW(h)(b)(ae:n6 b):Y (ag.aJ T) 83 [R h,bV b] [] (bh (hX h b)) []:=by
 refine Y.K func83 rfl λj=>?_;have d:a9 (ag.aJ T) [(136,HJ),(68,da c1 (λh=>bh (cB h)) λ_=>[]),(137,S0),(138,S6),(31,oh)]:=.cons aeL (.cons pR (.cons (.bn λb h e=>W6 h b e.1 e.2) (.cons (.bn λb h e=>XN h b e) (.cons tU .nil))));have i:=a2.m b.1;have r:=bi.m b.2.1;have w:=a1.m b.2.2;rw[adC];cases bT:cB h
 .exact a8 d [-10,-15,-20] a (by simp[bT,i,r,w,a2.U,bi.U,a1.U]) (g.ar a)
 cases aj:tA h b
 .exact a8 d [10,-15,-20] a (by simp[bT,i,r,w,a2.U,bi.U,a1.U,ae,aj]) (g.ar a)
 cases B:(aB (c b.2.1)).all (ly h b)
 .exact a8 d [10,15,-20] a QW (g.ar a)
 exact a8 d [10,15,20] a QW (g.ar a o3)
abbrev xN:bK:=eu c1 pf (λb a=>bh (hX b a)) λ_ a=>[n6 a]
def ET:bM (ag.aJ T) 83 xN:=.bn λb d a=>XW b d a
abbrev i'(b a:aq×Z):n an:=ij b a++[Ax]
def qH(d:Int)(b:cj)(a:Int)(e:n cZ):cj×Bool:=
 if hX d b=m/\(a=1∨a=2)/\dX e=m then(match(pL d b a e).2 with|none=>((pL d b a e).1,m)|some _=>(b,v))else(([],[],[]),v)
structure Gh(h:Int)(b:cj):Prop where
 kl:cB h=m
 sp:c (dT b.1)<=100000
 kn:kT (e7 b.1) (c (e7 b.1))=m
 eF:g9 b.2.2=m
 a7:1<=dI b
def oy:∀a,a<3->([0,1,2]:n Nat)[a]?=f a:=b9
def T5{b:ag T}(aa):Y b 148 [aw .br,oo aa] [] (bh v) []:=by refine Y.K func148 rfl λd=>?_;refine aZ a C ?_;refine g.aN (DM a underlying179 a a a) a a ?_;exact a6 [9] a E (g.ar a)
def XY(u t)(h)(b)(i)(o)(n:dL b)(bb:n6 b)(F:n5 b)(G:a7 .i64 i)(M:hX h b=m->Gh h b):
  Y (ag.aJ T) 96 [R h,bV b,R i,bC.C o] (i' u t) (M_ (qH h b i o).1 (qH h b i o).2) (i' u t):=by
 refine Y.bm ba func96 rfl rfl rfl λH=>?_;have k:a9 (ag.aJ T) [(83,xN),(50,rD)]:=.cons ET (.cons wl .nil);by_cases e:hX h b=m
 .by_cases d:i=1∨i=2
  .by_cases j:dX o=m
   .have l:qH h b i o=(match(pL h b i o).2 with|none=>((pL h b i o).1,m)|some _=>(b,v)):=br ⟨e,d,j⟩;rw[l];obtain⟨O,B,y,D,Q⟩:=M e;have A:=Xu (q:=ag.aJ T) u t h b i o O n F j B y D d Q;apply g.cn [(0,R h),(2,R i),(3,bC.C o),(5,aD 3 0),(8,aD 4 0)] (i' u t++[.cells 27 [.c (tK b.1),.c (tL b.2.1),.c (hU b.2.2)],.cells 27 [cD,cD,cD]])
    .intro dw;rcases d with rfl|rfl
     .refine bf k [-17,-20,-25,-29,903] a PG (dw _ _ a ?_);simp
     refine bf k [-17,20,-25,-29,903] a PG (dw _ _ a ?_);simp
    have K:∀x:Z,Y (ag.aJ T) 148 [aw .br,oo x] [] (bh v) []:=λx=>T5 x;generalize pL h b i o=J at *;obtain⟨W,S⟩:=J;cases S with
    |none=>
     have w:=A;refine cK k a C (g.aC w [0,1] a (bf k [905] a C (g.hL 12 6 a a λz=>?_)));refine cK k a C (g.g5 40 a ?_);exact g.aC (K _) [] a (bf k [-41] a E nV)
    |some V=>
     have w:=A;refine cK k a C (g.aC w [0,1] a (bf k [905] a C (g.hL 12 6 a a λz=>?_)));refine g.iN 11 a λI=>?_;refine cK k a C (g.g5 40 a ?_);refine g.aC (T3 I z) [2,6] a (bf k [41] a E (g.aC (pq b n.a2 n.bu n.a7 n.bx n.aP) [] a (qV k [] 2 a C (g.hM ?_))));exact g.bC 7 a a a E E (g.bC 8 a a a E E PR)
   have l:qH h b i o=(([],[],[]),v):=bl λr=>j r.2.2;rw[l];have s:dX o=v:=N;rcases d with rfl|rfl
   .exact bf k [-17,-20,-25,29] a QU nV
   exact bf k [-17,20,-25,29] a QU nV
  have l:qH h b i o=(([],[],[]),v):=bl λr=>d r.2.1;rw[l];exact bf k [-17,20,25,29] a bJ nV
 have l:qH h b i o=(([],[],[]),v):=bl λr=>e r.1;rw[l];refine bf k [17,25,29] a ?_ ?_
 .simp only[U,a2.m,bi.m,a1.m];and_intros<;>first|rfl|exact True.intro|exact a2.U _|exact bi.U _|exact a1.U _|exact bb|grind
 exact nV
section
variable {q:ag T}
def Uz(b)(d:dL b):Y q 81 [bV b] [] (bV b) []:=by refine(qu b d.a2 d.bu d.a7 d.bx d.aP).b4 a ?_ a;simp
abbrev BJ:bK:=da pf (λa=>bV a) λa=>[dL a]
def MZ:bM q 81 BJ:=.bd λb a=>Uz b a
def IU(b)(e:dL b.1)(i:c b.2.1<=4000000)(k:c b.2.2<=4000000):Y q 48 [gn b] [] (.p (.agg [cJ a2 b.1.1,cJ bi b.1.2.1,cJ a1 b.1.2.2,cJ aC b.2.1,.w 0 1 (c b.2.2) (aC.fn b.2.2)])) [.w 3 1 (c b.2.2) (aC.fn b.2.2)]:=by
 refine Y.bm ba func48 rfl rfl rfl λj=>?_;have h:a9 q [(81,BJ)]:=.cons MZ .nil;refine bf h [2000009] a ?_ ?_
 .simp only[U,a2.m,a2.U,bi.m,bi.U,a1.m,a1.U,e,a',a_,show ef.bytes=8 from a,lH];exact fu
 refine g.bf [gh b,.cells 30 [cJ a2 b.1.1,cJ bi b.1.2.1,cJ a1 b.1.2.2,cJ aC b.2.1,.w 2 1 (c b.2.2) (aC.fn b.2.2)],.w 3 1 (c b.2.2) (aC.fn b.2.2)] a ?_ ?_
 .simp[a2.m,bi.m,a1.m,pg]
 refine g.bh () [2] ?_ (λl d=>absurd d E);simp
def UB(b)(d:dL b.1)(e:c b.2.1<=4000000)(g:c b.2.2<=4000000):Y q 48 [gn b] [] (gn b) []:=
 (IU b d e g).b4 a E a
abbrev xF:bK:=da (AJ CV) (λa=>gn a) λa=>[dL a.1,c a.2.1<=4000000,c a.2.2<=4000000]
def EN:bM q 48 xF:=.bd λb a=>UB b a.1 a.2.1 a.2.2
abbrev Ky(b:cb)(a:n cW):n an:=[xH b,.cells 105 [.c (.int .i64 0),cD],.cells 105 [.c (.int .i64 b.1),.w 3 2 (c a) (bH.fn a)],.w 153 2 (c a) (bH.fn a)]
def C1{d}{a:α->Bool}(g:e<c d)(b):(d.take (e+1)).filter a=if a (d.getD e b)=m then(d.take e).filter a++[d.getD e b]else(d.take e).filter a:=by rw[ig g b,List.filter_append,sG];split<;>simp
def C0(d)(a:α->Bool)(b:e<=c d):c ((d.take e).filter a)<=e:=fM (kI _ _) bW
def Wa(S)(b)(B:c S.2<=4000000):Y q 82 [fD S,aC.C b] [] (fD (hD S b)) []:=by
 refine Y.bm ba func82 rfl rfl rfl λn=>?_;have i:a9 q [(60,u0)]:=.cons zA .nil;refine bf i [902] a C (g.cr 2 1 153 2 (bH.fn []) a a ?_);refine b_ i a C ?_;refine g.aE 4 (λe=>e<=c S.2) (λe:Nat=>[(1,aC.C b),(2,aD 0 0),(4,aD 1 0),(5,aD 2 0),(6,R e)])
  (λe=>Ky S ((S.2.take e).filter λd=>b.contains d.1)) (λe=>c S.2-e) 0 a E a E a x ?_
 intro e j;have l:=C0 S.2 (λd=>b.contains d.1) j;by_cases t:e<c S.2
 .have I:S.2.getD e bH.I=ea S e:=rfl;have r:(S.2.take (e+1)).filter (λd=>b.contains d.1)=if b.contains (ea S e).1=m then(S.2.take e).filter (λd=>b.contains d.1)++[ea S e]else(S.2.take e).filter (λd=>b.contains d.1):=C1 t (0,[]);generalize(S.2.take e).filter (λd=>b.contains d.1)=k at *;generalize ea S e=d at *;cases ae:b.contains d.1 with
  |true=>
   rw[br ae]at r;have B:=bH.a0 k d;refine bf i [15,25] a QV (g.ax (e+1) a E ?_ t x);exact OC
  |false=>
   rw[bl ds]at r;refine bf i [15,-25] a P7 (g.ax (e+1) a E ?_ t x);simp_all
 exact PL
abbrev Hs:bK:=eu (jE bH) (e2 aC) (λb a=>fD (hD b a)) λb _=>[c b.2<=4000000]
def aer:bM q 82 Hs:=.bn λd a b=>Wa d a b
abbrev j1(b:dW)(a:Bool):y:=.ae [.agg (wh b),.R (.c (.bool a))]
abbrev me:n Q:=[cD,cD,cD,cD,cD]
def stepT(b:Int)(a:n Int)(d:n cb)(e:Nat):n cb:=fi b a (d.take e)
def adz{bS}{ct}{ab}(a:e<c ab):stepT bS ct ab (e+1)=if(iU bS ct (ab.getD e (0,[]))).2.length=0 then stepT bS ct ab e else stepT bS ct ab e++[iU bS ct (ab.getD e (0,[]))]:=by unfold stepT fi;rw[ig a (0,[]),List.map_append,List.filter_append,List.map_singleton];grind
def ady(bS)(ct)(ab)(a:e<=c ab):c (stepT bS ct ab e)<=e:=by unfold stepT fi;grind
def XS(b)(j:dL b.1)(e:c b.2.1<=4000000)(i:b.2.2=[]):Y q 47 [gn b] [] (j1 b v) []:=by refine Y.bB func47 rfl rfl rfl λh=>?_;have d:a9 q [(48,xF)]:=.cons EN .nil;refine bf d [13] a bJ ?_;refine g.freeze 2 1 a a a ?_;refine g.cb ba [] a ?_ a a a ft;simp[a2.m,bi.m,a1.m,aC.m]
abbrev adD(b:cj)(a:n Int)(e:n Int)(d:n cb):n an:=[gh (b,a,e),.cells 30 me,gh (b,a,e),.w 105 2 (c d) (a2.fn d)]
def _root_.Go.AM.c0.iX(a:c0 α)(k)(d)(g:j=c d):bt j (fA 1 (a.fn (k::d))) (a.fn d):=by intro e b;simp only[fA,c0.fn,gv,al,Nat.add_comm 1 e,oa]
def XT(b)(ct k)(bS)(u)(F:k=bS::u)(w:dL b)(K:c ct<=4000000)(J:c k<=4000000):Y q 47 [gn (b,ct,k)] [] (j1 ((fi bS ct b.1,b.2),ct,u) m) []:=by
 refine Y.bB func47 rfl rfl rfl λQ=>?_;have l:a9 q [(48,xF),(82,Hs)]:=.cons EN (.cons aer .nil);have M:0<c k:=ds;refine bf l [-13,905] a ?_ ?_
 .simp only[U,a2.m,a2.U,bi.m,bi.U,a1.m,a1.U,aC.m,aC.U,w,K,J,a',a_,eM,d'];omega
 refine g.bM 5 105 2 a a ?_;refine cK l a C ?_;have N:=w.a2;refine g.aE 4 (λe=>e<=c b.1) (λe:Nat=>[(1,aD 0 0),(2,aD 1 0),(4,aD 2 0),(5,.p (.R (.w 3 2 (c (stepT bS ct b.1 e)) (a2.fn (stepT bS ct b.1 e))))),(6,R e)])
  (λe=>adD b ct k (stepT bS ct b.1 e)) (λe=>c b.1-e) 0 a ?_ a ?_ a x ?_
 .simp[stepT,fi]
 .simp[stepT,fi,a2.m,bi.m,a1.m,aC.m]
 intro e t;by_cases n:e<c b.1
 .have I:b.1.getD e a2.I=b.1.getD e (0,[]):=rfl;have z:=w.bu _ (mF n (0,[]));have i:=adz (bS:=bS) (ct:=ct) n;have O:=ady bS ct b.1 t;have s:k.getD (Int.toNat 0) aC.I=bS:=bJ;generalize stepT bS ct b.1 e=y at *;generalize b.1.getD e (0,[])=h at *;by_cases j:h.1=bS
  .have B:iU bS ct h=hD h ct:=by unfold iU;exact bw
   rw[B]at i;have d:=a2.a0 y (hD h ct);have S:(hD h ct).2.length<=c h.2:=kI _ _;have r:(h.1,h.2)=h:=rfl;by_cases o:(hD h ct).2.length=0
   .rw[br o]at i;refine bf l [21,36,-44] a ?_ (g.ax (e+1) a ?_ ?_ n x)
    .simp only[U,c5,I,s,r,z,bH.m,bH.U,aC.m,aC.U,a7,bA,dv,gZ,a',a_];exact z0
    .rw[i];simp
    rw[i];simp
   rw[bl o]at i;refine bf l [21,36,44] a ?_ (g.ax (e+1) a ?_ ?_ n x)
   .simp only[U,c5,I,s,r,z,bH.m,bH.U,aC.m,aC.U,a7,show nB.bytes=32 from a,bA,dv,gZ,a',a_];exact z0
   .exact QE
   exact QE
  have B:iU bS ct h=h:=by unfold iU;exact bw
  rw[B]at i;have d:=a2.a0 y h;by_cases o:c h.2=0
  .rw[br o]at i;refine bf l [21,-36,-44] a ?_ (g.ax (e+1) a ?_ ?_ n x)
   .simp only[U,c5,I,s,a7,bA,dv,eM,d',a',a_];exact z0
   .rw[i];simp
   rw[i];simp
  rw[bl o]at i;refine bf l [21,-36,44] a ?_ (g.ax (e+1) a ?_ ?_ n x)
  .simp only[U,c5,I,s,a7,show nB.bytes=32 from a,bA,dv,eM,d',a',a_];exact z0
  .exact QF
  exact QF
 obtain rfl:e=c b.1:=x;have D:stepT bS ct b.1 (c b.1)=fi bS ct b.1:=by unfold stepT;simp
 rw[D];refine bf l [-21] a E (g.aB ?_);refine cK l a bw (g.freeze 2 1 a a a ?_);refine g.cb ba [] a ?_ a a a ft;have A:=aC.iX bS u a;rw[<-F]at A;simp only[U.Y,U,bU,a',a_];and_intros<;>first|exact bt.same|exact A|simp_all|grind|rfl
def qC(a:dW):Bool:=!a.2.2.isEmpty
def XR(a)(g:dL a.1)(h:c a.2.1<=4000000)(k:c a.2.2<=4000000):Y q 47 [gn a] [] (j1 (jx a) (qC a)) []:=by
 obtain⟨e,b,j⟩:=a;cases j with
 |nil=>exact XS (e,b,[]) g h rfl
 |cons d i=>exact XT e b (d::i) d i rfl g h k
abbrev GP(d:cj)(a:n eh)(b:n Int):n an:=[jZ d,.cells 30 me,.cells 30 [cJ a2 d.1,.w 4 2 (c a) (bi.fn a),cJ a1 d.2.2,cD,.w 5 1 (c b) (aC.fn b)],jZ d,.w 129 2 (c a) (bi.fn a),.w 3 1 (c b) (aC.fn b)]
def map_take{b:Type}{d}{ae:α->b}(g:e<c d)(a):(d.take (e+1)).map ae=(d.take e).map ae++[ae (d.getD e a)]:=by rw[ig g a,List.map_append];rfl
def Gx(d)(a:eh->Bool):c (hi (d.filter a))<=c (hi d):=by
 induction d with
 |nil=>simp
 |cons e d b=>
  unfold hi at *;grind
def Uc(h)(b)(i)(n:dL b)(y:p8 b):Y q 46 [R h,bV b,aC.C i] [] (j1 (kL h b i).1 (kL h b i).2) []:=by
 refine Y.bB func46 rfl rfl rfl λN=>?_;have k:a9 q [(61,BT),(81,BJ),(60,u0),(59,BL)]:=.cons M' (.cons MZ (.cons zA (.cons M2 .nil)));have M:=n.a2;have F:=n.a7;unfold kL;cases s:hX h b with
 |false=>
  refine bf k [15] a ?_ ?_
  .simp only[U,a2.m,a2.U,bi.m,bi.U,a1.m,a1.U,s,n.a2,n.a7,a',a_,hH];exact y.d_
  refine g.freeze 6 1 a a a ?_;exact QG
 |true=>
 rw[br a];refine bf k [-15,906] a ?_ ?_
 .simp only[U,a2.m,a2.U,bi.m,bi.U,a1.m,a1.U,s,n.a2,n.a7,n,a',a_,fq];exact y.d_
 refine g.cr 2 1 129 2 (bi.fn []) a a ?_;refine g.cr 2 4 3 1 (aC.fn []) a a ?_;refine cK k a C ?_;refine g.aE 6 (λe=>e<=c b.2.1) (λe:Nat=>[(2,aC.C i),(4,aD 0 0),(6,aD 1 0),(8,aD 2 0),(9,aD 3 0),(10,R e)])
  (λe=>GP b ((b.2.1.take e).filter λj=>i.contains j.1) []) (λe=>c b.2.1-e) 0 a ?_ a ?_ a x ?_
 .simp
 .simp[a2.m,bi.m,a1.m]
 intro e o;have B:=C0 b.2.1 (λj=>i.contains j.1) o;by_cases l:e<c b.2.1
 .have u:b.2.1.getD e bi.I=b.2.1.getD e (0,[]):=rfl;have r:(b.2.1.take (e+1)).filter (λj=>i.contains j.1)=if i.contains (b.2.1.getD e (0,[])).1=m then(b.2.1.take e).filter (λj=>i.contains j.1)++[b.2.1.getD e (0,[])]else(b.2.1.take e).filter (λj=>i.contains j.1):=C1 l (0,[]);generalize(b.2.1.take e).filter (λj=>i.contains j.1)=w at *;generalize b.2.1.getD e (0,[])=j at *;cases z:i.contains j.1 with
  |true=>
   rw[br z]at r;have d:=bi.a0 w j;refine bf k [30,40] a ?_ (g.ax (e+1) a E ?_ l x)
   .simp[-al,-List.contains_eq_mem,u,l,z,aC.m,aC.U,a7,show rP.bytes=32 from a];omega
   exact QL
  |false=>
   rw[bl ds]at r;refine bf k [30,-40] a ?_ (g.ax (e+1) a E ?_ l x)
   .simp[-al,-List.contains_eq_mem,u,l,z,aC.m,aC.U,a7];omega
   simp_all
 obtain rfl:e=c b.2.1:=x;rw[c_]at B⊢;have D:=Gx b.2.1 λj=>i.contains j.1;have I:kx (b.1,b.2.1.filter (λj=>i.contains j.1),b.2.2):=λj d=>n.bx j (kJ.1 d).1;have J:=y.eC;generalize b.2.1.filter (λj=>i.contains j.1)=A at *;refine bf k [-30] a E (g.aB ?_);refine cK k a C ?_;refine g.aE 6 (λe=>e<=c b.1) (λe:Nat=>[(2,aC.C i),(4,aD 0 0),(6,aD 1 0),(8,aD 2 0),(11,R e)])
  (λe=>GP b A ((b.1.take e).map (·.1))) (λe=>c b.1-e) 0 a E a E a x ?_
 intro e o;have K:c ((b.1.take e).map (·.1))=e:=bW;by_cases l:e<c b.1
 .have u:b.1.getD e a2.I=b.1.getD e (0,[]):=rfl;have r:=map_take (ae:=λt:cb=>t.1) l (0,[]);generalize(b.1.take e).map (λt:cb=>t.1)=w at *;generalize b.1.getD e (0,[])=t at *;have d:=aC.a0 w t.1;refine bf k [57] a ?_ (g.ax (e+1) a E ?_ l x)
  .simp[-al,u,l,a7,show ef.bytes=8 from a];omega
  exact QL
 obtain rfl:e=c b.1:=x;rw[c_];refine bf k [-57] a E (g.aB ?_);refine cK k a bJ (g.freeze 8 2 a a a ?_);refine g.freeze 6 1 a a a ?_;refine g.cb ba [] a ?_ a a a ft;simp[bi.m]
abbrev Ha:bK:=kj c1 pf (e2 aC) (λd a b=>j1 (kL d a b).1 (kL d a b).2) λ_ a _=>[dL a,p8 a]
def ad4:bM q 46 Ha:=.c5 λd e b a=>Uc d e b a.1 a.2
def rO(a:dO)(b:cb):cb:=if b.1=a.2.1/\0<=a.2.2.1/\a.2.2.1<c b.2 then(b.1,gK b.2 a.2.2.1.toNat a.2.2.2)else b
def l5(a:cj)(b:dO):cj:=
 if b.1=1 then(a.1.filter λd=>!(d.1==b.2.1),a.2.1,a.2.2)
 else if b.1=2 then(if b.2.1<0∨b.2.1>c a.2.2 then a else(a.1,a.2.1.filter λd=>!jr b.2.1.toNat a.2.2 d,a.2.2.take b.2.1.toNat))
 else if b.1=3 then(a.1.map (rO b),a.2)
 else if b.1=4 then(if 0<=b.2.1/\b.2.1<c a.2.2 then(a.1,a.2.1,a.2.2.set b.2.1.toNat (3-(a.2.2.getD b.2.1.toNat (0,0)).1,(a.2.2.getD b.2.1.toNat (0,0)).2))else a)
 else a
def J9{b}{d}(e:p4 b d):b.1.map (rO d)=b.1:=by apply rx E;intro g h a;rw[List.getElem_map];have:=e g a;rw[al,bG a,ir]at this;exact bl this
def J8{b}{d}{i0}(a:sr b d i0 z):b.1.map (rO d)=(g1 b d i0 z).1:=by
 have l:=a.a_;apply qg;intro e;have j:(g1 b d i0 z).1=b.1.set i0 ((b.1.getD i0 (0,[])).1,gK (b.1.getD i0 (0,[])).2 z d.2.2.2):=rfl;rw[j,ng];by_cases h:e<c b.1
 .have r:b.1[e]?=f (b.1.getD e (0,[])):=N;by_cases g:e=i0
  .subst g;rw[io h,r];have n:=a.gw;have i:=a.bY;simp only[lJ,rO];rw[br ⟨a.df,by omega,by omega⟩,i,c5]
  rw[j_ (λa=>g a.symm),r];simp only[lJ,rO];rw[bl (λk=>a.b6 e h g k.1)]
 grind
structure Sb(q:ag T)(b:cj)(d:dO)(az:cj):Prop where
 ea:dL az
 c':Y q 80 [bV b,eo d] [] (bV az) []
def r7{b}(k:o5 b)(d):Sb q b d (l5 b d):=by
 have a:=k.size;have C:=a.aP;unfold l5;by_cases l:d.1=1
 .rw[br l];exact⟨⟨fM (kI _ _) a.a2,λs g=>a.bu s (kJ.1 g).1,a.a7,a.bx,a.aP⟩,Xw b d a l⟩
 rw[bl l];by_cases h:d.1=2
 .rw[br h];by_cases e:d.2.1<0∨d.2.1>c b.2.2
  .rw[br e];exact⟨a,Jn b d b a h (T8 b d.2.1 a.aP e)⟩
  rw[bl e];have n:d.2.1=(d.2.1.toNat:Nat):=x;have t:=T9 (q:=q) b d.2.1.toNat x a.a7 k.num a.aP;rw[<-n]at t;refine⟨⟨a.a2,a.bu,fM (kI _ _) a.a7,λB A=>a.bx B (kJ.1 A).1,?_⟩,Jn b d _ a h t⟩;simp;omega
 rw[bl h];by_cases e:d.1=3
 .rw[br e];rcases J_ k d with⟨i0,z,o⟩|n
  .have r:(b.1.map (rO d),b.2)=g1 b d i0 z:=by rw[J8 o]
   rw[r];refine⟨⟨by simpa using a.a2,λs g=>?_,a.a7,a.bx,a.aP⟩,Xx b d a e i0 z o⟩;rcases AP g with g|rfl
   .exact a.bu s g
   simpa[gK]using a.bu _ (vm o.a_)
  rw[J9 n];exact⟨a,XD b d a e n⟩
 rw[bl e];by_cases i:d.1=4
 .rw[br i];by_cases j:0<=d.2.1/\d.2.1<c b.2.2
  .rw[br j];have w:(b.2.2.getD (0+d.2.1.toNat) a1.I)∈b.2.2:=N;have t:=k.aP _ w;have y:a7 .i64 (3-lA b d):=RB;have u:=Xz (q:=q) b d a i j.1 j.2 y;have r:b.2.2.set (0+d.2.1.toNat) (3-lA b d,(b.2.2.getD (0+d.2.1.toNat) a1.I).2)=b.2.2.set d.2.1.toNat (3-(b.2.2.getD d.2.1.toNat (0,0)).1,(b.2.2.getD d.2.1.toNat (0,0)).2):=N;rw[r]at u;exact⟨⟨a.a2,a.bu,a.a7,a.bx,by simpa using a.aP⟩,u⟩
  rw[bl j];exact⟨a,XA b d a i j⟩
 rw[bl i];exact⟨a,XC b d a l h e i⟩
def Dp{b}(l:o5 b)(d):Y q 35 [bV b,eo d] [] (bV (l5 b d)) []:=by
 have e:=l.size;have u:=e.aP;unfold l5;by_cases j:d.1=1
 .rw[br j];exact Wg b d e j
 rw[bl j];by_cases g:d.1=2
 .rw[br g];by_cases a:d.2.1<0∨d.2.1>c b.2.2
  .rw[br a];exact CJ (Wk b d e g a)
  rw[bl a];have k:d.2.1=(d.2.1.toNat:Nat):=x;exact Wi b d e g d.2.1.toNat k x
 rw[bl g];by_cases a:d.1=3
 .rw[br a];rcases J_ l d with⟨i0,z,n⟩|k
  .have o:(b.1.map (rO d),b.2)=g1 b d i0 z:=by rw[J8 n]
   rw[o];exact Wl b d e a i0 z n
  rw[J9 k];exact Wn b d e a k
 rw[bl a];by_cases h:d.1=4
 .rw[br h];by_cases i:0<=d.2.1/\d.2.1<c b.2.2
  .rw[br i];have r:(b.2.2.getD (0+d.2.1.toNat) a1.I)∈b.2.2:=N;have w:=l.aP _ r;have s:a7 .i64 (3-lA b d):=RB;have t:=Wq (q:=q) b d e h i.1 i.2 s;grind
  rw[bl i];exact Wp b d e h i
 rw[bl h];exact CJ (Wr b d e j g a h)
def SP{d:cj}(b:o5 d)(a:dO):RY q d a (l5 d a):=⟨(r7 (q:=q) b a).ea,Dp b a,(r7 b a).c'⟩
structure m9(d:n (Int×Int)):Prop where
 aP:∀k∈d,(1<=k.1/\k.1<=2)/\1<=k.2/\k.2<=20
 cA:c d<=9
theorem m9.of{d}(a:g9 d=m):m9 d:=⟨(KC a).1,(KC a).2⟩
def m9.take{d}(a:m9 d)(e):m9 (d.take e):=⟨λg b=>a.aP g (hh b),by have:=a.cA;rw[List.length_take];omega⟩
def MT{d}(a:e<c d):gy (d.take (e+1))=64*gy (d.take e)+21*(d.getD e (0,0)).1+(d.getD e (0,0)).2:=by unfold gy;rw[ig a (0,0),uG];rfl
def X2(d)(e:m9 d):Y q 134 [a1.C d] [] (R (gy d)) []:=by
 refine Y.K func134 rfl λl=>?_;have s:=e.cA;refine aZ a C (g.aE 0 (λb=>b<=c d) (λb:Nat=>[(0,a1.C d),(3,R (gy (d.take b))),(4,R b)]) (λ_=>[]) (λb=>c d-b) 0 a (by simp[gy]) a C a x ?_);intro b j;by_cases h:b<c d
 .have i:d.getD b a1.I=d.getD b (0,0):=rfl;have o:=MT h;have n:=zx e.aP e.cA b;have k:=zx e.aP e.cA (b+1);have r:=e.aP _ (mF h (0,0));refine a6 [8] a ?_ (g.ax (b+1) a ?_ C h x)
  .simp only[U,c5,i,a7,bA,a',a_];exact fu
  simp only[U.Y,U,c5,i,a',a_];and_intros<;>first|exact bt.same|omega
 obtain rfl:b=c d:=x;rw[c_];exact P3
abbrev HM:bK:=da (e2 a1) (λa=>R (gy a)) λa=>[m9 a]
def aeP:bM q 134 HM:=.bd λb a=>X2 b a
abbrev kl(a:Int×Int):y:=.p (.agg [.c (.int .i64 a.1),.c (.int .i64 a.2)])
abbrev mb(a:(Int×Int)×Int):y:=.ae [.agg [.c (.int .i64 a.1.1),.c (.int .i64 a.1.2)],.R (.c (.int .i64 a.2))]
def Xv(z)(d)(s:c d<=4000000):Y q 79 [kl z,a1.C d] [] (mb (jt z d)) []:=by
 refine Y.bB func79 rfl rfl rfl λr=>?_;have b:a9 q [(111,oh),(134,HM)]:=.cons M1 (.cons aeP .nil);unfold jt;cases bT:g9 d with
 |false=>
  rw[bl E];exact bf b [8,15,20] a F1 sj
 |true=>
 have h:=m9.of bT;by_cases ae:z.1<=c d
 rotate_left
 .rw[bl zV];exact bf b [-8,15,20] a Q0 sj
 by_cases I:0<=z.1
 rotate_left
 .rw[bl so];exact bf b [-8,-15,20] a PH sj
 rw[br ⟨rfl,ae,I⟩];have o:(z.1.toNat:Int)=z.1:=rr I;have k:a1.af (bU (c d) (f z.1)-bU 0 p) (fA (bU 0 p) (a1.fn d))=d.take z.1.toNat:=by have l:bU (c d) (f z.1)-bU 0 p=z.1.toNat:=wQ;rw[l,a1.ho d (λn i=>by simp[fA,bU]) x]
 have j:a1.bT (bU (c d) (f z.1)-bU 0 p) (fA (bU 0 p) (a1.fn d)):=a1.g_ d (λn i=>by simp[fA,bU]);by_cases e:gy (d.take z.1.toNat)=z.2
 .rw[br e];refine bf b [-8,-15,-20,-29] a ?_ ?_
  .simp only[U,ji,k,j,bT,h,h.take,e,a1.m,a1.U,fq,bA,dv,ip,a',a_];omega
  refine g.freeze 4 1 a a a ?_;exact g.cb ba [] a (by simp[a1.m]) a a a ft
 rw[bl e];refine bf b [-8,-15,-20,29] a ?_ ?_
 .simp only[U,ji,k,j,bT,h,h.take,a1.m,a1.U,fq,bA,dv,iI,a',a_];and_intros<;>first|exact e|omega
 exact sj
def fY(d:Int)(b:dW)(a:Int)(e:n cZ):dW×Bool:=
 if rX d b a e=m then(if fO d b.1 e=m then(b,v)else(r5 d b a e,m))else(k0,v)
structure p9(J:dW):Prop where
 bc:dL J.1
 b':p8 J.1
 cA:c J.2.1<=4000000
 cL:c J.2.2<=4000000
def fo.ca{b}(a:fo j b)(d:j<=1000000):p9 b:=⟨a.bc.toj8.dZ,a.j1,by have:=a.b';omega,by have:=a.cL;omega⟩
def X7(h)(b)(cv)(o)(k:p9 b):Y q 78 [R h,gn b,R cv,bC.C o] [] (j1 (fY h b cv o).1 (fY h b cv o).2) []:=by
 refine Y.bB func78 rfl rfl rfl λL=>?_;have j:a9 q [(30,BU),(29,jM),(43,sT),(48,xF),(107,BM),(108,xD)]:=.cons Nb (.cons kA (.cons zy (.cons EN (.cons M3 (.cons EL .nil)))));have aa:=k.b';have w:(b.1,b.2.1,b.2.2)=b:=rfl;have V:fY h b cv o=if hd h b=m then(if 1<=cv/\cv<=2 then(if dX o=m then(if fO h b.1 o=m then(b,v)else(r5 h b cv o,m))else(k0,v))else(k0,v))else(k0,v):=by unfold fY rX;by_cases ae:hd h b=m<;>by_cases B:1<=cv/\cv<=2<;>by_cases s:dX o=m<;>simp[ae,B,s]
 rw[V];cases ae:hd h b with
 |false=>
  rw[bl E];refine bf j [18,23,28] a ?_ ?_
  .simp only[U,a2.m,a2.U,bi.m,bi.U,a1.m,a1.U,aC.m,aC.U,w,ae,aa,hH,a',a_]
  exact z2
 |true=>
 rw[br a];by_cases B:1<=cv/\cv<=2
 rotate_left
 .rw[bl B];refine bf j [-18,23,28] a ?_ ?_
  .simp only[U,a2.m,a2.U,bi.m,bi.U,a1.m,a1.U,aC.m,aC.U,w,ae,aa,fq,a',a_];grind
  exact z2
 rw[br B];cases s:dX o with
 |false=>
  rw[bl E];exact bf j [-18,-23,28] a Fo z2
 |true=>
 rw[br a];have r:=wj.1 ae;have aV:=r.tomq.gG;have K:=aV.fc;have l:=Xs (q:=q) h b.1 cv o r.key k.bc K (sd s) aV.j9;cases u:fO h b.1 o with
 |true=>
  rw[u,br a]at l;rw[br a];refine bf j [-18,-23,-28] a Fo (g.aC l [] a (bf j [42] a ?_ ?_))
  .simp only[U,a2.m,a2.U,bi.m,bi.U,a1.m,a1.U,aC.m,aC.U,w,k.bc,k.cA,k.cL,fq,hH,a',a_]
  refine g.freeze 8 1 a a a ?_;exact g.cb ba [] a Ab a a a ft
 |false=>
 rw[u,bl E]at l;rw[bl E];refine bf j [-18,-23,-28] a Fo (g.aC l [] a ?_);have F:=aV.dh (h:=h) (o:=o) (cv:=cv) (by have:=xq 1 r.dv λn J=>(r.a7 n J).1;omega) s u;have Q:(hV h b.1 cv o).2.1.length=c b.1.2.1+1:=by simp[hV]
 have S:(hV h b.1 cv o).2.1.getD ((hV h b.1 cv o).2.1.length-1) (0,[])=gU (dI b.1) h o:=by rw[Q];simp[hV,al]
 have O:=F.c6 (gU (dI b.1) h o) N;have X:=wo O.2;have H:=tv (gU (dI b.1) h o).2;have G:=F.eB;have W:=k.cA;unfold r5;generalize hV h b.1 cv o=i at *;generalize gU (dI b.1) h o=n at *;have T:((c i.2.1:Int)-1).toNat=c i.2.1-1:=x;have z:i.2.1.getD ((c i.2.1:Int)-1).toNat bi.I=n:=by rw[T];exact S
 refine bf j [-42] a ?_ ?_
 .simp only[U,z,a2.m,a2.U,bi.m,bi.U,a1.m,a1.U,aC.m,aC.U,cq.m,cq.U,w,k.bc,k.cA,k.cL,a7,fq,hH,a',a_];omega
 rw[z];simp only[cq.m];generalize gI n.2=d at *;refine g.aE 4 (λe=>e<=c d) (λe:Nat=>[(5,aD 0 0),(8,aD 1 0),(10,aD 2 0),(12,aD 3 0),(13,aC.C d),(14,R e)])
  (λe=>[gh b,.cells 30 me,jZ i,gh (i,(d.take e).foldl e8 b.2.1,b.2.2)]) (λe=>c d-e) 0 a ?_ a ?_ a x ?_
 .simp
 .exact Ab
 intro e M;by_cases t:e<c d
 .have D:d.getD e aC.I=d.getD e 0:=rfl;have y:=yr e8 b.2.1 t;have I:=qy b.2.1 (d.take e);rw[List.length_take]at I;generalize(d.take e).foldl e8 b.2.1=jd at *;have A:=aC.m jd;refine bf j [58] a ?_ (g.ax (e+1) a ?_ ?_ t x)
  .simp[-al,D,t,A,aC.U,a7];omega
  .simp
  rw[y];simp[-al,D,A]
 obtain rfl:e=c d:=x;rw[c_];refine bf j [-58] a E (g.aB ?_);exact cK j a C z2
def Js(d)(b:m9 d)(z)(r:z<=c d):Y q 33 [aw (iz d),R z] [] (R (gy (d.take z))) []:=by
 refine Y.K func33 rfl λs=>?_;have w:=b.cA;refine aZ a C (g.loop (λe=>e<=z) (λe:Nat=>[(0,aw (iz (d.drop e))),(1,R ((z:Int)-e)),(5,R (gy (d.take e)))]) (λ_=>[]) (λe=>z-e) 0 x (.cons a (eH a (by simp[gy]))) a ?_);intro e l;by_cases k:e<z
 .have h:=MT (d:=d) (e:=e) x;have t:=zx b.aP b.cA e;have o:=zx b.aP b.cA (e+1);have u:=b.aP _ (mF (e:=e) (d:=d) x (0,0));rw[ID (e:=e) x]
  generalize d.getD e (0,0)=n at *;generalize j:d.drop (e+1)=i;cases i<;>(
   refine aZ a C (g.aN (tI a underlying72 a a a) a a ?_);refine a6 [8,11] a ?_ ⟨e+1,k,by omega,.cons (by rw[j];rfl) (eH a ?_),a⟩
   .simp only[U,a7,bA,a',a_];exact FQ
   .simp only[U.Y,U,a',a_];and_intros<;>omega)
 obtain rfl:e=z:=x;generalize d.drop e=i;cases i with
 |nil=>
  refine aZ a C (g.aN (rY a underlying72 a a a) a a ?_);refine a6 [-8,-11] a E (g.bt a a ?_);exact wJ
 |cons n i=>
  refine aZ a C (g.aN (tI a underlying72 a a a) a a ?_);refine a6 [8,-11] a E (g.bt a a ?_);exact wJ
def Wx(d)(i:c d<=4000000):Y q 34 [a1.C d] [] (R (if g9 d=m then gy d else -1)) []:=by
 refine Y.K func34 rfl λj=>?_;have h:=I9 (q:=q) d i;cases bT:g9 d with
 |false=>
  have b:a9 q [(31,oh)]:=.cons tU .nil;refine bf b [5] a F1 (g.ar a)
 |true=>
  have e:=Js (q:=q) d (.of bT) (c d) (bE _);rw[c_]at e;have b:a9 q [(31,oh),(32,d8 [a1.C d] (aw (iz d))),(33,d8 [aw (iz d),R (c d)] (R (gy d)))]:=.cons tU (.cons (eg h) (.cons (eg e) .nil));generalize gy d=k at *;cases d<;>(
   refine bf b [-5] a ?_ (g.ar a);simp only[U,bT,a1.m,a1.U,fq,a',a_]
   and_intros<;>rfl)
def CK(z)(d)(i:c d<=4000000):Y q 10 [kl z,a1.C d] [] (mb (jt z d)) []:=by
 refine Y.bB func10 rfl rfl rfl λt=>?_;have l:=I9 (q:=q) d i;have h:=Wx (q:=q) d i;have e:a9 q [(31,oh)]:=.cons tU .nil;unfold jt;cases bT:g9 d with
 |false=>
  rw[bl E];exact bf e [9,16,21] a F1 sj
 |true=>
 have r:=m9.of bT;by_cases j:z.1<=c d
 rotate_left
 .rw[bl (by simp[j])];exact bf e [-9,16,21] a Q0 sj
 by_cases I:0<=z.1
 rotate_left
 .rw[bl so];exact bf e [-9,-16,21] a PH sj
 rw[br ⟨rfl,j,I⟩];have o:(z.1.toNat:Int)=z.1:=rr I;have k:=Js (q:=q) d r z.1.toNat x;rw[br bT]at h;rw[o]at k;have hK:a9 q [(31,oh),(32,d8 [a1.C d] (aw (iz d))),(33,d8 [aw (iz d),R z.1] (R (gy (d.take z.1.toNat)))),(34,d8 [a1.C d] (R (gy d)))]:=.cons tU (.cons (eg l) (.cons (eg k) (.cons (eg h) .nil)));generalize gy d=s at *;generalize gy (d.take z.1.toNat)=n at *;by_cases b:n=z.2
 .rw[br b];cases d<;>(
   refine bf hK [-9,-16,-21,-23] a ?_ ?_
   .simp only[U,bT,b,a1.m,a1.U,fq,bA,dv,ip,a',a_];exact q_
   refine g.freeze 4 1 a a a ?_;exact g.cb ba [] a E a a a ft)
 .rw[bl b];cases d<;>(
   refine bf hK [-9,-16,-21,23] a ?_ ?_
   .simp only[U,bT,a1.m,a1.U,fq,bA,dv,iI,a',a_];and_intros<;>first|exact b|rfl|omega
   refine g.freeze 4 1 a a a ?_;exact g.cb ba [] a E a a a ft)
def og(a:Int):Bool:=decide (1<=a/\a<=2)
def Uh(j):Y q 36 [R j] [] (bh (og j)) []:=by
 refine Y.K func36 rfl λb=>?_;unfold og;by_cases t:j=1
 .refine a6 [5] a gA (g.ar a ?_);simp[t]
 refine a6 [-5] a gA (g.ar a ?_);simp only[U,a_];rw[pb];simp only[gZ,bA];omega
abbrev uZ:bK:=da c1 (λa=>bh (og a)) λ_=>[]
def zz:bM q 36 uZ:=.bd λa _=>Uh a
def Kb:bv:=⟨1,8,v,TypeDesc.map 3 4,[.val (.map p)],[]⟩
def YX:dR T 132 Kb:=⟨underlying132,rfl,⟨Tryz.t132,_,hz type132,rfl,rfl,rfl,rfl,⟨#[],rfl⟩,rfl⟩,λb=>absurd a b⟩
def db:bn T ((132,Kb)::eU):=bn.cons YX ba
abbrev s3(a:Z):y:=cM a
abbrev jh(a:Z)(b:n Int):an:=.J (ja a b)
def IM(r)(e d):Y q 84 [s3 r,aC.C d] [jh r e] (.ae []) [jh r (e++d)]:=by
 refine Y.K func84 rfl λh=>?_;have l:=h.C 1 a;refine g.aR b5 db a9.nil [] 100 a C (g.aE 1 (λb=>b<=c d) (λb:Nat=>[(0,s3 r),(6,aC.C d),(7,R (c d)),(8,R b)]) (λb=>[jh r (e++d.take b)]) (λb=>c d-b) 0 a E a E a x ?_);intro b k;by_cases j:b<c d
 .have n:d.getD (b:Int).toNat aC.I=d.getD b 0:=ds;refine g.aR b5 db a9.nil [9] 100 a bW (g.aN (a0.jS a underlying132 underlying3 (i:=0) a a a a) a a ?_);refine g.aR b5 db a9.nil [] 100 a bJ (g.ax (b+1) a E ?_ j x);simp_all
 obtain rfl:b=c d:=x;rw[c_];refine g.aR b5 db a9.nil [-9] 100 a E (g.aB ?_);exact bX.dk [0] a E a a a h7
def WV(b)(d)(j):Y q 87 [R j,aw (.Q [.val b])] [jh b d] (bh (!d.contains j)) [jh b d]:=by refine Y.K func87 rfl λh=>?_;refine g.aR b5 db a9.nil [] 100 a C ?_;refine g.aN (a0.jQ a underlying132 underlying3 (λe=>Tryz.zeroValue4 e) (i:=0) a a a) a a ?_;exact g.aR b5 db a9.nil [] 100 a C (g.aM [0] a E h7)
def VO(b)(j):Y q 89 [fD b,aw (.Q [.int .i64 j])] [] (bh (b.1==j)) []:=by refine Y.K func89 rfl λd=>?_;exact aZ a C (g.ar a)
def CG(k)(b:c k.2<=4000000)(d:c (eb k.2)<=4000000):Y q 86 [iO k] [] (aC.C (fZ k)) []:=by refine Y.K func86 rfl λe=>?_;refine aZ a C ?_;refine g.aC (XG k b d) [] a ?_;exact aZ a C (g.ar a)
def o7(g:Z)(h:Nat)(b:Array MapEntry)(e:Nat):Z->(Nat->Option Obj)->Prop:=λi a=>i=g/\∀d,a d=if d=h then f (.map b e)else p
def iS(a:MapEntry):Int:=match a.key with|.int _ b=>b|_=>0
structure o8(I:Z)(d:n Int)(bb:Nat)(V:Array MapEntry)(r:Nat):Prop where
 b':I=.map (f bb)
 bE:MapKept.Stamped V r
 cx:∀aj∈V.toList,aj.key=.int .i64 (iS aj)/\a7 .i64 (iS aj)/\aj.val=.bool m
 mem:∀j,j∈d↔j∈V.toList.map iS
def ja.j'{I}{d}(s:ja I d aa lc):∃b:{b:Nat×Array MapEntry×Nat // o8 I d b.1 b.2.1 b.2.2},o7 I b.1.1 b.1.2.1 b.1.2.2 aa lc:=by
 obtain⟨j,x,g,o,k,w,t,u,n⟩:=s;have i:∀a∈g.toList,a.key=.int .i64 (iS a)/\a7 .i64 (iS a)/\a.val=.bool m:=λa e=>by
  obtain⟨l,k1,q,r⟩:=u a e;have:iS a=l:=by simp[iS,k1]
  rw[this];exact⟨k1,r,q⟩
 refine⟨⟨(x,g,o),k,t,i,λl=>?_⟩,j,w⟩;rw[n,k_];constructor
 .rintro⟨a,e,h⟩;exact⟨a,e,by simp[iS,h]⟩
 rintro⟨a,e,rfl⟩;exact⟨a,e,(i a e).1⟩
def o8.cO{I}{d}{bb}{V}{r}(e:o8 I d bb V r)(g:o7 I bb V r aa lc):ja I d aa lc:=by
 refine⟨g.1,bb,V,r,e.b',g.2,e.bE,λb a=>⟨_,(e.cx b a).1,(e.cx b a).2.2,(e.cx b a).2.1⟩,λi=>?_⟩;rw[e.mem,k_];constructor
 .rintro⟨b,a,rfl⟩;exact⟨b,a,(e.cx b a).1⟩
 rintro⟨b,a,h⟩;exact⟨b,a,by simp[iS,h]⟩
def uw(a:Array MapEntry)(pre:n Int)(b:Array Nat):Prop:=pre.Nodup/\(∀e∈pre,e∈a.toList.map iS)/\∀d∈a.toList,d.born∈b↔iS d∈pre
section
variable {I:Z}{d:n Int}{bb r:Nat}{V:Array MapEntry}(bc:o8 I d bb V r)
include bc
def o8.aw:(V.toList.map iS).Nodup:=by
 have b:V.toList.map (·.key)=(V.toList.map iS).map (Value.int .i64):=by rw[List.map_map];exact w7 λa d=>(bc.cx a d).1
 have:=bc.bE.2.2;rw[b]at this;rw[List.Nodup,xb]at this;exact this.imp λb a=>b (eN (Value.int .i64) a)
def o8.step{pre}{dz}(i:uw V pre dz){b}(g:b∈V.toList)(j:b.born∉dz):uw V (pre++[iS b]) (dz.push b.born)/\iS b∉pre:=by
 have k:iS b∉pre:=λl=>j ((i.2.2 b g).2 l);refine⟨⟨by grind[uw],λn e=>?_,λh a=>?_⟩,k⟩
 .rcases gl.1 e with e|e
  .exact i.2.1 n e
  rw[gY.1 e];exact List.mem_map_of_mem g
 simp only[Array.mem_push,gl,gY,i.2.2 h a];refine or_congr_right ⟨λd=>?_,λd=>?_⟩
 .rw[DN bc.bE.2.1 a g d]
 rw[DN bc.aw a g d]
def o8.over{pre}{dz}(g:uw V pre dz)(i:∀e∈V.toList,e.born∈dz):pre.Nodup/\∀b,b∈pre↔b∈d:=by refine⟨g.1,λb=>⟨λa=>(bc.mem b).2 (g.2.1 b a),λa=>?_⟩⟩;obtain⟨e,h,rfl⟩:=k_.1 ((bc.mem b).1 a);exact(g.2.2 e h).1 (i e h)
end
def yn{b}:∀a,a<1->(0::b)[a]?=f a:=λa d=>by simp_all
abbrev xI(a:Z):O:=.fn (.func 184) [] [.Q [.val a]]
def VX(I):Y q 152 [s3 I] [] (aw (xI I)) []:=by refine Y.K func152 rfl λb=>?_;refine g.aR b5 db a9.nil [901] 100 a C ?_;refine g.freeze 1 0 a a a ?_;exact g.aR b5 db a9.nil [] 100 a C (g.ar a)
set_option maxRecDepth 20000 in
def VY{ad:Type}{I}{d}{bb}{V}{r}(k:o8 I d bb V r){h}{e}{u}(t w:ad->an)(x:n Int->ad->Prop)(s)(S:x [] s)(aG:∀j,t j≠.bo/\w j≠.bo)(i:∀pre b j M,b∉pre->pre.Nodup->(∀X∈pre++[b],X∈d)->x pre j->iE (ι:={l:ad // x (pre++[b]) l}) q 3 [R b] [.J (o7 I bb V r),t j,w j,.loop h e u,.J M] m (λl=>[.J (o7 I bb V r),t l.1,w l.1,.loop h e u,.J M])):
  bk (ι:={B:ad×n Int×Array Nat // (B.2.1.Nodup/\∀K,K∈B.2.1↔K∈d)/\x B.2.1 B.1}) q 184 [.p (.R (.aV 3)),aw (.Q [.val I])] [.J (o7 I bb V r),t s,w s,.loop h e u] (λ_=>.ae []) (λz=>[.J (o7 I bb V r),t z.1.1,w z.1.1,.loop h e u,.J (k5 bb r z.1.2.2)]):=by
 obtain rfl:=k.b';have F:ut (o7 (.map (f bb)) bb V r) bb V r:=λY T U=>by rw[U.2];simp
 refine bk.bR func184 rfl rfl rfl (g.aT ?_);refine g.aR b5 db a9.nil [] 100 a C (g.range (qN:=0) (bb:=bb) a a a a underlying132 (bZ.kh a) a F ?_);refine g.aR b5 db a9.nil [] 100 a C ?_;show b2 q _ (.loop _) _ _ _;refine b2.loop (bq:=ad×n Int×Array Nat) (λb=>uw V b.2.1 b.2.2/\x b.2.1 b.1) (λ_=>[(0,.p (.R (.aV 3))),(5,.p (.R (.aV 4)))]) (λb=>[.J (o7 (.map (f bb)) bb V r),t b.1,w b.1,.loop h e u,.J (k5 bb r b.2.2)]) (λb=>c V.toList-c b.2.1) (s,[],#[]) ⟨⟨List.nodup_nil,by simp,by simp⟩,S⟩ (eH a E) a ?_;rintro⟨j,pre,dz⟩ ⟨J,Q⟩;refine g.aT ?_;refine g.aR b5 db a9.nil [] 100 a C (g.next (qN:=0) (kn:=4) (bb:=bb) (r:=r) (dz:=dz) (V:=V) a a a a a a a a F k.bE (λaj o=>⟨by rw[(k.cx aj o).1];rfl,by rw[(k.cx aj o).2.2];rfl⟩) λz=>?_);cases z with
 |over D=>
  refine g.aR b5 db a9.nil [-7] 100 a E (g.fL a a ?_);exact⟨⟨(j,pre,dz),k.over J D,Q⟩,.inr a,a,qQ (bY:=.J _) E (qQ (aG j).1 (qQ (aG j).2 a)),[],.ae [],[],a,a,a,C⟩
 |R aj o H=>
  refine g.aR b5 db a9.nil [7] 100 a E ?_;obtain⟨k1,O,y⟩:=k.cx aj o;obtain⟨A,G⟩:=k.step J o H;refine g.entry (qN:=0) (kn:=4) (bb:=bb) (r:=r) (dz:=dz) (V:=V) (aj:=aj) (X:=.ae [.R (.c (.int .i64 (iS aj))),.R .any]) a a a a a a a F k.bE o (λW=>⟨[aj.key,aj.val],a,?_,by rw[y];rfl,C⟩) ?_
  .rw[k1];exact Rd.int O
  refine g.aR b5 db a9.nil [] 100 a C (g.yield (i pre (iS aj) j _ G J.1 (λX N=>(k.mem X).2 (A.2.1 X N)) Q) a a a a a a λl=>?_);refine g.aR b5 db a9.nil [-13] 100 a E ⟨(l.1,pre++[iS aj],dz.push aj.born),⟨A,l.2⟩,?_,eH a E,a⟩;have:=yU _ _ A.1 A.2.1;simp at this⊢;omega
abbrev AG(d:n Int):Type:={b:n Int // b.Nodup/\∀a,a∈b↔a∈d}
set_option maxRecDepth 20000 in
def T2(I)(d)(K:c d<=4000000):
  bk (ι:=AG d) q 225 [aw (.C m 0 0 λ_=>[]),aw (xI I)] [jh I d] (λb=>cz 1 (.C (c b.1) 1 0 (c b.1))) (λb=>[jh I d,jg (c b.1) b.1]):=by
 refine bk.e6 func225 rfl rfl rfl λJ=>?_;refine dc.seq (b2.bA (g.aT ?_));refine aZ a C (dc.seq (dc.seq (b2.bA (g.aT ?_))));refine g.gB 0 (λb:{b:Nat×Array MapEntry×Nat // o8 I d b.1 b.2.1 b.2.2}=>o7 I b.1.1 b.1.2.1 b.1.2.2) a (λA e h=>ja.j' h) ?_;rintro⟨⟨M,w,E⟩,b⟩;refine g.eu 1 0 3 1 (aC.fn []) a a ?_;refine aZ a C (dc.block ?_);refine dc.rangeFunc (pj:=e4 [.Q [.val I]]) (bZ.callee a) (VY (ad:=n Int) b (λo=>.cells 28 [.S 2 (.C (c o) 1 0 (c o))]) (λo=>jg (c o) o) (λpre o=>o=pre) [] a (λo=>⟨by simp,by simp⟩) ?_) (λl=>⟨a,by simp⟩) λl=>⟨.normal,a,?_⟩
 .rintro pre k o s j z r rfl;have F:c o+1<=4000000:=by have:=yU (o++[k]) d N r;simp at this;omega
  refine iE.intro (u:=p) a a a a (g.aT ?_);refine aZ a C ⟨a,a,g.aT ?_⟩;refine aZ a (by simp[a7,show ef.bytes=8 from a];omega) ?_;have i:=aC.a0 o k;refine⟨a,a,⟨o++[k],a⟩,jT a ?_⟩;simp only[U.Y,U,dm,gW,a',a_];and_intros<;>first|exact i|rfl|exact bt.same
 show dc q _ _ _ _ _;obtain⟨⟨o,pre,y⟩,t,x⟩:=l;obtain rfl:o=pre:=x;refine b2.bA (g.aT ?_);refine g.gB (ι:=Unit) 0 (λ_=>ja I d) a (λA e h=>⟨(),b.cO h⟩) λ_=>?_;refine aZ a C (g.bU (λi B D b=>⟨⟨o,t⟩,b⟩) (g.aM [0,2] a ?_ yn));simp
def Ut(I)(d)(e:c d<=4000000):
  bk (ι:=AG d) q 183 [aw (xI I)] [jh I d] (λb=>cz 1 (.C (c b.1) 1 0 (c b.1))) (λb=>[jh I d,jg (c b.1) b.1]):=by refine bk.cy func183 rfl rfl rfl λh=>?_;refine aZ a C (g.b0 (T2 I d e) [0] a a a a E a a a bm a bm a λb=>?_);refine aZ a C (g.bL b (g.aM [0,1] a ?_ yn));simp
def acQ{d aP}(j:aP.Pairwise (· < ·))(l:∀g,g∈aP↔g∈d)(a:AG d):j0 a.1=aP:=by
 have h:(j0 a.1).Pairwise λb e=>b<=e:=(List.pairwise_mergeSort (λb e n h i=>by grind) (λb e=>by grind) a.1).imp λk=>by grind
 have i:(j0 a.1).Nodup:=(zs _).nodup_iff.2 a.2.1;refine Bb ?_ j λg=>by rw[(zs _).mem_iff,a.2.2,l]
 exact(h.and i).imp λk=>by omega
def XO(I)(b aP:n Int)(l:c b<=4000000)(o:aP.Pairwise (· < ·))(k:∀e,e∈aP↔e∈b):
  Y q 151 [aw (xI I)] [jh I b] (cz 1 (.C (c aP) 1 0 (c aP))) [jh I b,jg (c aP) aP]:=by
 refine Y.K func151 rfl λs=>?_;refine aZ a C (g.a8 (Ut I b l) [0] a bm λd=>?_);have j:=acQ o k d;have t:=yU d.1 b d.2.1 λe r=>(d.2.2 e).1 r;have i:=CL (q:=q) d.1 x;have h:c d.1=c aP:=by rw[<-j,qY]
 rw[j,h]at i;rw[h];refine aZ a C (g.aC i [1] a (aZ a C (g.aM [0,1] a ?_ yn)));simp
def Ws(I)(d aP)(h:c d<=4000000)(e:aP.Pairwise (· < ·))(i:∀b,b∈aP↔b∈d):
  Y q 101 [s3 I] [jh I d] (aC.C aP) [jh I d]:=by
 have j:Y q 101 [s3 I] [jh I d] (cz 1 (.C (c aP) 1 0 (c aP))) ([jh I d]++[jg (c aP) aP]):=by refine Y.K func101 rfl λk=>?_;refine g.aR b5 db a9.nil [] 100 a C (g.aC (VX I) [] a (g.aR b5 db a9.nil [] 100 a C (g.aC (XO I d aP h e i) [0] a (g.aR b5 db a9.nil [] 100 a C (g.aM [0,1] a ?_ yn)))));simp
 exact Y.bQ j a E a (bE _)
abbrev jJ(b:Nat)(a:n Int):an:=.q 3 1 b (aC.fn a)
end
section
variable {q:ag T}
abbrev R8:={a:n Int // c a<=5}
def VU(z)(e:Nat->Int)(u:Bytes e)(h:Nat)(o:h<=500000)(j:z<=1048576):
  bk (ι:=R8) q 42 [aD 0 0] [ej z e h] (λw=>aC.C w.1) (λ_=>[ej z e (h+5:Nat)]):=by
 refine bk.cy func42 rfl rfl rfl λF=>?_;refine a6 [902] a C (g.bM 3 3 1 a a ?_);refine aZ a C (g.aE 2 (λb:Nat×n Int=>1<=b.1/\b.1<=6/\c b.2+1<=b.1) (λb=>[(0,aD 0 0),(3,.p (.R (.w 1 1 (c b.2) (aC.fn b.2)))),(4,R b.1)]) (λb=>[ej z e (h+(b.1-1):Nat),.w 3 1 (c b.2) (aC.fn b.2)]) (λb=>6-b.1) (1,[]) a E a E a ⟨by decide,by decide,by decide⟩ ?_);rintro⟨d,i⟩ ⟨s,l,t⟩;simp only at s l t;by_cases D:d<=5
 .refine a6 [7] a bw (g.a8 (hM z e u (h+(d-1)) 2 x j x) [0] a bm ?_);rintro⟨y,A,B⟩;by_cases k:y=0
  .have r:=aC.a0 i (d:Int);refine a6 [12] a ?_ (g.ax (d+1,i++[(d:Int)]) a ?_ ?_ ⟨by omega,by omega,by grind⟩ x)
   .simp only[U,k,a7,show ef.bytes=8 from a,fT,a',a_];exact fu
   .exact OE
   exact OE
  refine a6 [-12] a bJ (g.ax (d+1,i) a E ?_ ⟨by omega,by omega,by exact bw⟩ x);exact bw
 obtain rfl:d=6:=x;refine a6 [-7] a E (g.aB ?_);refine aZ a C (g.bL ⟨i,by omega⟩ (g.aM [0] a ?_ nq));simp
def zR:n bB:=[[122,122],[98,46],[104,101,108,108,111,46,46,46]]
def afd:bt 3 (λa=>([[.T [122,122]],[.T [98,46]],[.T [104,101,108,108,111,46,46,46]]]:n (n O)).getD a []) (bR.fn zR):=by intro a b;have:a=0∨a=1∨a=2:=x;rcases this with rfl|rfl|rfl<;>rfl
set_option maxRecDepth 20000 in
def We(z)(b:Nat->Int)(h:Bytes b)(d:Nat)(l:d<=500000)(e:z<=1048576):
  bk (ι:=dO) q 41 [aD 0 0] [ej z b d] (λn=>eo n) (λ_=>[ej z b (d+4:Nat)]):=by
 refine bk.bB ba func41 rfl rfl rfl λr=>?_;refine aZ a C (g.a8 (hM z b h d 5 x e x) [0] a bm ?_);rintro⟨i,_⟩;refine aZ a C (g.a8 (hM z b h (d+1) 5 x e x) [0] a bm ?_);rintro⟨k,_⟩;refine aZ a C (g.a8 (hM z b h (d+1+1) 3 x e x) [0] a bm ?_);rintro⟨j,_⟩;refine aZ a C (g.b0 (WX z b h (d+1+1+1) x e zR b9).tocF [0] a a a a ?_ a a a bm a bm a ?_)
 .simp only[U.Y,U,a',a_];exact⟨a,afd⟩
 rintro -;generalize zR.getD (qT z b (d+1+1+1) (c zR)).toNat []=o;refine aZ a C (g.bh (i,k,j,o) [0] ?_ g5);simp
end
structure n7(J:dW):Prop extends n6 J.1 where
 fP:c J.2.1<=4000000
 fN:c J.2.2<=4000000
def Gz{d}(a:e<c d):c (eb (d.getD e (0,[])).2)<=c (hi d):=by have:=Gy d (e+1);grind[A3]
def adH(h)(a):hd h a=(hX h a.1&&(aB (c a.1.2.1)).all (λb=>!(fZ (a.1.2.1.getD b (0,[]))).any λd=>!a.2.1.contains d)&&(aB (c a.2.2)).all (nF a.1.1 a.2.2)):=by rw[hd,aa9];cases hX h a.1<;>simp
def X4(h)(i)(r:n7 i):Y (ag.aJ T) 49 [R h,gn i] [] (bh (hd h i)) []:=by
 refine Y.K func49 rfl λV=>?_;have k:a9 (ag.aJ T) [(83,xN)]:=.cons ET .nil;have X:=a2.m i.1.1;have aa:=bi.m i.1.2.1;have cL:=a1.m i.1.2.2;have bb:=r.ton6;rw[adH];cases bT:hX h i.1
 .exact g.aR b5 db k [14] 100 a RH (g.ar a)
 refine g.aR b5 db k [-14] 100 a RH ?_;rw[fs];refine g.h1 a a a λo=>?_;refine g.aR b5 db k [] 100 a C (g.aC (IM o [] i.2.1) [1] a ?_);rw[qe];refine g.aR b5 db k [905] 100 a C (g.freeze 5 2 a a a ?_);refine g.aR b5 db k [] 100 a C (g.aE 3 (λe=>e<=c i.1.2.1/\∀l,l<e->(!(fZ (i.1.2.1.getD l (0,[]))).any λj=>!i.2.1.contains j)=m) (λe:Nat=>[(0,R h),(3,aD 0 0),(5,aw (.Q [.val o])),(22,bi.C i.1.2.1),(23,R (c i.1.2.1)),(24,R e)]) (λ_=>[gh i,jh o i.2.1,.M]) (λe=>c i.1.2.1-e) 0 a E a E a ⟨by omega,by omega⟩ ?_);have H:=r.fb;rintro e ⟨u,q⟩;by_cases t:e<c i.1.2.1
 .have b:i.1.2.1.getD (e:Int).toNat bi.I=i.1.2.1.getD e (0,[]):=N;have A:=r.d_ _ (oC (I:=(0,[])) t);have Q:=Gz t;have J:=r.eC;have L:=kK (S:=λl=>!(fZ (i.1.2.1.getD l (0,[]))).any λj=>!i.2.1.contains j) t;have z:=iJ (S:=λl=>!(fZ (i.1.2.1.getD l (0,[]))).any λj=>!i.2.1.contains j) (e:=e);generalize i.1.2.1.getD e (0,[])=n at *;refine g.aR b5 db k [25] 100 a bW ?_;rw[b];refine g.aC (CG n A.1 x) [] a (g.aR b5 db k [] 100 a C (g.aC (Vb (fZ n) 87 [.val o] (ja o i.2.1) (λj=>!i.2.1.contains j) λj _=>WV o i.2.1 j) [1] a ?_));cases G:(fZ n).any λj=>!i.2.1.contains j with
  |true=>
   refine g.aR b5 db k [] 100 a C (g.aX (bX.zero a ?_));exact bJ
  |false=>
   refine g.aR b5 db k [] 100 a ?_ (g.ax (e+1) a E E ⟨t,z q N⟩ x);exact bJ
 obtain rfl:e=c i.1.2.1:=x;rw[f'.2 q,fs];refine g.aR b5 db k [-25] 100 a E (g.aB ?_);refine g.aR b5 db k [] 100 a C ?_;have D:=r.fN;refine g.aE 3 (λe=>e<=c i.2.2/\∀l,l<e->nF i.1.1 i.2.2 l=m) (λe:Nat=>[(0,R h),(3,aD 0 0),(34,aC.C i.2.2),(35,R (c i.2.2)),(36,R e)]) (λ_=>[gh i,jh o i.2.1,.M]) (λe=>c i.2.2-e) 0 a E a E a ⟨by omega,by omega⟩ ?_;rintro e ⟨u,q⟩;by_cases t:e<c i.2.2
 .have b:i.2.2.getD (e:Int).toNat aC.I=i.2.2.getD e 0:=N;have B:i.2.2.getD (e-1) aC.I=i.2.2.getD (e-1) 0:=rfl;have y:nF i.1.1 i.2.2 e=((i.1.1.any λS=>S.1==i.2.2.getD e 0)&&kg (λn=>n) 0 i.2.2 e):=rfl;have F:=qi (ae:=λn:Int=>n) (I:=0) (d:=i.2.2) (e:=e);generalize i.2.2.getD e 0=j at *;generalize i.2.2.getD (e-1) 0=w at *;have hK:a9 (ag.aJ T) [(88,d8 [a2.C i.1.1,aw (.fn (.func 89) [] [.Q [.int .i64 j]])] (bh (i.1.1.any λS=>S.1==j)))]:=.cons (eg (Vd i.1.1 89 [.int .i64 j] (λS=>S.1==j) λS _=>VO S j)) .nil;refine g.aR b5 db k [37,914] 100 a bW ?_;rw[b];refine g.freeze 9 3 a a a ?_;have fin:i.1.1.any (λS=>S.1==j)=m->kg (λn=>n) 0 i.2.2 e=m->nF i.1.1 i.2.2 e=m:=λG K=>by grind
  by_cases O:e=0
  .subst O;cases s:i.1.1.any (λS=>S.1==j)with
   |true=>
    refine g.aR b5 db hK [-43,-60] 100 a ?_ (g.ax 1 a E E ⟨t,iJ q (fin s a)⟩ x);simp[a7,s,c0.C]
   |false=>
    refine g.aR b5 db hK [-43,60] 100 a bJ (g.aX (bX.zero a ?_));exact j5
  by_cases M:w<j
  rotate_left
  .refine g.aR b5 db hK [43,51,60] 100 a ?_ (g.aX (bX.zero a ?_))
   .simp[-al,B,a7];omega
   exact j5
  cases s:i.1.1.any (λS=>S.1==j)with
  |true=>
   refine g.aR b5 db hK [43,-51,-60] 100 a ?_ (g.ax (e+1) a E E ⟨t,iJ q (fin s N)⟩ x);exact OQ
  |false=>
   refine g.aR b5 db hK [43,-51,60] 100 a OQ (g.aX (bX.zero a ?_));exact j5
 obtain rfl:e=c i.2.2:=x;rw[f'.2 q];refine g.aR b5 db k [-37] 100 a E (g.aB ?_);exact g.aR b5 db k [] 100 a C (g.ar a)
abbrev xO:bK:=eu c1 (AJ CV) (λb a=>bh (hd b a)) λ_ a=>[n7 a]
def EU:bM (ag.aJ T) 49 xO:=.bn λb d a=>X4 b d a
section
variable {q:ag T}
inductive R7 (ι:Type)
 |cA
 |iq (bc:ι)
 |i' (bc:ι)
 |done (bc:ι) (aa:Z)
abbrev Ed{k1}(b:Nat)(a:Nat->Int)(e:Int)(g:Bool):R7 (Ga k1)->an
 |.cA=>match g with
  |false=>ej b a e
  |true=>ej b a (e+1)
 |.iq d|.i' d|.done d _=>ej b a d.1.2
section
variable {i:Nat->Int}{bz:Int}{k1:Nat}{J:dW}{S:Ga k1->Bool}
end
end
abbrev afb(a:dG):an:=.cells 35 (hY a)
def afh(a):fa a=(hd a.1 a.2.1&&decide (c a.2.2.2.1=2)&&decide (c a.2.2.2.2=2)&&(aB 2).all (q4 a)):=by unfold fa;cases hd a.1 a.2.1<;>cases decide (c a.2.2.2.1=2)<;>cases decide (c a.2.2.2.2=2)<;>simp
def CN(b)(z:n7 b.2.1):Y (ag.aJ T) 19 [ep b] [] (bh (fa b)) []:=by
 refine Y.K func19 rfl λD=>?_;have i:a9 (ag.aJ T) [(49,xO)]:=.cons EU .nil;have B:=a2.m b.2.1.1.1;have j:=bi.m b.2.1.1.2.1;have h:=a1.m b.2.1.1.2.2;have d:=aC.m b.2.1.2.1;have ae:=aC.m b.2.1.2.2;rw[afh];cases bT:hd b.1 b.2.1
 .exact g.aR b5 db i [11,17,22] 100 a (by simp[bT,B,j,h,d,ae,a2.U,bi.U,a1.U,aC.U,z]) (g.ar a)
 by_cases o:c b.2.2.2.1=2
 rotate_left
 .exact g.aR b5 db i [-11,17,22] 100 a FR (g.ar a (by simp[k9 o]))
 by_cases n:c b.2.2.2.2=2
 rotate_left
 .exact g.aR b5 db i [-11,-17,22] 100 a FR (g.ar a (by simp[k9 n]))
 refine g.aR b5 db i [-11,-17,-22] 100 a FR ?_;rw[ff o,ff n,fs,fs,fs];refine g.aE 1 (λe=>e<=2/\∀l,l<e->q4 b l=m) (λe:Nat=>[(1,aD 0 0),(24,a1.C b.2.2.2.1),(25,R (c b.2.2.2.1)),(26,R e)]) (λ_=>[afb b]) (λe=>2-e) 0 a E a E a ⟨by omega,by omega⟩ ?_;rintro e ⟨y,k⟩;by_cases t:e<2
 .have I:b.2.2.2.1.getD e a1.I=oI b e:=rfl;have r:b.2.2.2.2.getD e aC.I=ox b e:=rfl;have A:q4 b e=(decide (0<=(oI b e).1/\(oI b e).1<=9)&&decide (0<=(oI b e).2)&&decide (0<=ox b e/\ox b e<=2)):=rfl;by_cases q:0<=(oI b e).1
  rotate_left
  .refine g.aR b5 db i [27,34,39,44,52,59] 100 a FP (g.aX (bX.zero a ?_));exact j5
  by_cases s:(oI b e).1<=9
  rotate_left
  .refine g.aR b5 db i [27,-34,39,44,52,59] 100 a FP (g.aX (bX.zero a ?_));exact j5
  by_cases u:0<=(oI b e).2
  rotate_left
  .refine g.aR b5 db i [27,-34,-39,44,52,59] 100 a FP (g.aX (bX.zero a ?_));exact j5
  by_cases w:0<=ox b e
  rotate_left
  .refine g.aR b5 db i [27,-34,-39,-44,52,59] 100 a Rm (g.aX (bX.zero a ?_));exact j5
  by_cases F:ox b e<=2
  rotate_left
  .refine g.aR b5 db i [27,-34,-39,-44,-52,59] 100 a Rm (g.aX (bX.zero a ?_));exact j5
  refine g.aR b5 db i [27,-34,-39,-44,-52,-59] 100 a ?_ (g.ax (e+1) a E E ⟨t,iJ k N⟩ x);simp[-al,I,r,a7];omega
 obtain rfl:e=2:=x;rw[f'.2 k];refine g.aR b5 db i [-27] 100 a bW (g.aB ?_);exact g.aR b5 db i [] 100 a C (g.ar a)
section
variable {q:ag T}[q.b8]
abbrev fK:=Int×Int×n cZ×dO×n Int
abbrev Cs(a:fK):n Q:=[.c (.int .i64 a.1),.c (.int .i64 a.2.1),cJ bC a.2.2.1,.c (.int .i64 a.2.2.2.1.1),.c (.int .i64 a.2.2.2.1.2.1),.c (.int .i64 a.2.2.2.1.2.2.1),.c (.T a.2.2.2.1.2.2.2),cJ aC a.2.2.2.2]
abbrev lS(a:fK):y:=.p (.agg (Cs a))
abbrev afC:n Q:=[.c (.int .i64 0),.c (.int .i64 0),cD,.c (.int .i64 0),.c (.int .i64 0),.c (.int .i64 0),.c (.T []),cD]
abbrev afD:an:=.cells 38 afC
abbrev md:dO:=(0,0,0,[])
structure Au(h:Nat)(bc:fK×Nat):Prop where
 d':c bc.1.2.2.1<=7
 ko:c bc.1.2.2.2.2<=5
 hn:h<=bc.2
 gn:bc.2<=h+500
set_option maxRecDepth 20000 in
def I2(z)(b:Nat->Int)(i:Bytes b)(h)(u:h<=40000)(e:z<=1048576):
  bk (ι:={k:fK×Nat // Au h k}) q 16 [aD 0 0] [ej z b h] (λk=>lS k.1.1) (λk=>[ej z b k.1.2]):=by
 refine bk.bB ba func16 rfl rfl rfl λS=>?_;refine aZ a C (g.a8 (hM z b i h 9 x e x) [0] a bm ?_);rintro⟨d,D,F⟩;by_cases T:d<=3
 .apply g.cn [(0,aD 0 0),(2,aD 1 0)] [ej z b (h+1:Nat),afD]
  .intro dw;have:d=0∨d=1∨d=2∨d=3:=x;rcases this with rfl|rfl|rfl|rfl
   .exact a6 [6,906] a E kD
   .exact a6 [-6,7,906] a E kD
   .exact a6 [-6,-7,8,906] a E kD
   exact a6 [-6,-7,-8,9,906] a E kD
  refine aZ a C (g.a8 (hM z b i (h+1) 2 x e x) [0] a bm ?_);rintro⟨j,l,n⟩;refine aZ a uf (g.a8 (Ya z b i (h+1+1) x e) [0] a bm ?_);rintro⟨B,s,K,k1,t,J,y,R⟩;simp only;refine aZ a C (g.bh ⟨((1,1+j,B,md,[]),k1),J,by simp,by grind,by grind⟩ [0] ?_ g5);simp
 by_cases M:d=4
 .subst M;refine a6 [-6,-7,-8,-9,17] a E (g.a8 (hM z b i (h+1) 4 x e x) [0] a bm ?_);rintro⟨j,l,n⟩;refine aZ a C (g.bh ⟨((2,j,[],md,[]),h+1+1),by simp,by simp,by grind,by grind⟩ [0] ?_ g5);simp
 by_cases N:d=5
 .subst N;refine a6 [-6,-7,-8,-9,-17,22] a E (g.a8 (hM z b i (h+1) 2 x e x) [0] a bm ?_);rintro⟨j,l,n⟩;by_cases r:j=0
  .refine a6 [25] a (by simp[r]) (g.bh ⟨((3,0,[],md,[]),h+1+1),by simp,by simp,by grind,by grind⟩ [0] ?_ g5);simp
  refine a6 [-25] a (by simp[r]) (g.a8 (We z b i (h+1+1) x e) [0] a bm ?_);intro w;refine aZ a C (g.bh ⟨((3,0,[],w,[]),h+1+1+4),by simp,by simp,by grind,by grind⟩ [0] ?_ g5);simp
 by_cases I:d=6
 .subst I;refine a6 [-6,-7,-8,-9,-17,-22,31] a E (g.a8 (VU z b i (h+1) x e) [0] a bm ?_);rintro⟨cX,A⟩;refine aZ a C (g.bh ⟨((4,0,[],md,cX),h+1+5),by simp,A,by grind,by grind⟩ [0] ?_ g5);simp
 by_cases Q:d=7
 .subst Q;refine a6 [-6,-7,-8,-9,-17,-22,-31,36] a E (g.bh ⟨((5,0,[],md,[]),h+1),by simp,by simp,by grind,by grind⟩ [0] ?_ g5);simp
 obtain rfl:d=8:=x;refine a6 [-6,-7,-8,-9,-17,-22,-31,-36] a E (g.a8 (hM z b i (h+1) 8 x e x) [0] a bm ?_);rintro⟨j,l,n⟩;refine aZ a C (g.a8 (hM z b i (h+1+1) 4 x e x) [0] a bm ?_);rintro⟨o,O,nP⟩;refine aZ a C (g.bh ⟨((j,o,[],md,[]),h+1+1+1),by simp,by simp,by grind,by grind⟩ [0] ?_ g5);simp
abbrev gM(d:Int)(e:dW)(a:dO)(b:Nat):n Q:=.c (.int .i64 d)::(wh e++[.c (.int .i64 a.1),.c (.int .i64 a.2.1),.c (.int .i64 a.2.2.1),.c (.T a.2.2.2),.S b (.C 2 2 0 2),.S (b+1) (.C 2 1 0 2)])
abbrev lq(cX:n (Int×Int))(a:n Int):n an:=[.q 46 2 2 (a1.fn cX),.q 3 1 2 (aC.fn a)]
abbrev Ds:n (Int×Int):=[(0,0),(0,0)]
abbrev CX:n Int:=[0,0]
omit [q.b8]in
def Ys(h)(bT:cB h=m):Y q 38 [R h] [] (.ae [.agg (gM h k0 md 0),.R (.c (.bool m))]) (lq Ds CX):=by
 refine Y.bm ba func38 rfl rfl rfl λj=>?_;have b:a9 q [(70,sV)]:=.cons wm .nil;refine a8 b [-7,903] a kE (g.region ?_);refine qV b [] 3 a C (g.gQ ba a a a a a a ?_);refine g.gQ ba a a a a a a ?_;refine b_ b a C (g.bf [.cells 35 (gM h k0 md 1),.q 46 2 2 (a1.fn Ds),.q 3 1 2 (aC.fn CX),.cells 35 (gM h k0 md 1)] a ?_ ?_)
 .simp only[U.Y,U,a',a_];and_intros<;>first|rfl|exact bt.nil|(intro i d;match i,d with|0,_=>rfl|1,_=>rfl)
 refine g.cv () [1,2] ?_ (λk e=>absurd e E);simp
def Ey(d:Int)(b:cj)(a:Int)(e:n cZ):cj×Bool:=
 if hX d b=m/\(1<=a/\a<=2)/\dX e=m then(if fO d b e=m then b else hV d b a e,!fO d b e)else(([],[],[]),v)
end
section
variable {q:ag T}
def ym:∀a,a<2->([0,1]:n Nat)[a]?=f a:=λa b=>by
 match a,b with
 |0,_=>rfl
 |1,_=>rfl
def g_(a:Int)(e:cj)(d:dO)(b:n (Int×Int)×n Int):n (Int×Int)×n Int:=
 if b.2.getD (a-1).toNat 0=0 then(b.1.set (a-1).toNat (jt (b.1.getD (a-1).toNat (0,0)) (l5 e d).2.2).1,b.2.set (a-1).toNat (jt (b.1.getD (a-1).toNat (0,0)) (l5 e d).2.2).2)else b
def tq{cv}{b}{d}{bc}(a:c bc.1=2)(e:c bc.2=2):(g_ cv b d bc).1.length=2/\(g_ cv b d bc).2.length=2:=by unfold g_;split<;>simp[a,e]
abbrev zT:an:=.cells 46 [.c (.int .i64 0),.c (.int .i64 0)]
abbrev yT(a:Int×Int):an:=.cells 46 [.c (.int .i64 a.1),.c (.int .i64 a.2)]
abbrev afE:n Q:=[.c (.int .i64 0),cD,cD,cD,cD,cD,.c (.int .i64 0),.c (.int .i64 0),.c (.int .i64 0),.c (.T []),cD,cD]
abbrev fI:an:=.cells 35 afE
def Iv(b:Int)(e:dW)(d:dO)(cX:n (Int×Int))(a:n Int)(g:Int×Int)(_ h i:Bool):n an:=
 match h,i with
 |false,_=>lq cX a++[.cells 35 (gM b e d 0),fI]
 |true,v=>lq cX a++[.cells 35 (gM b e d 0),fI,zT]
 |true,m=>lq cX a++[.cells 35 (gM b e d 0),fI,yT g]
abbrev aft(i:dW)(g:dO)(a:Int)(h:Int×Int)(d:cj)(b:(Int×Int)×Int)(e:Nat):y:=
 [aD 2 10,cz 0 (.C 2 2 0 2),R a,R (a-1),cz 0 (.bz 2 2 (0+(a-1).toNat) 0),kl h,aD 2 1,aD 2 1,bV i.1,aD 2 6,eo g,bV d,a1.C d.2.2,mb b,mb b,kl b.1,R b.2,aD 4 0,.any,R b.2].getD e .any
set_option maxRecDepth 20000 in
def CD(h)(e)(d)(b)(cX)(B)(u:o5 e.1)(O:1<=b/\b<=2)(N:c cX=2)(K:c B=2):
  Y q 45 [.p (.agg (gM h e d 0)),R b] (lq cX B) (.p (.agg (gM h e d 0))) (lq (g_ b e.1 d (cX,B)).1 (g_ b e.1 d (cX,B)).2):=by
 refine Y.bm ba func45 rfl rfl rfl λJ=>?_;have Q:=(r7 (q:=q) u d).ea.aP;have aG:=(r7 (q:=q) u d).c';unfold g_;generalize l5 e.1 d=i at *;have M:(b-1).toNat<2:=x;have A:(0:Nat)+(b-1).toNat<2:=x;have E:cX.getD (b-1).toNat (0,0)=cX.getD (0+(b-1).toNat) a1.I:=rb;have S:(cX.getD (0+(b-1).toNat) a1.I)=(cX.getD (0+(b-1).toNat) a1.I):=rfl;rw[E];have F:=Xv (q:=q) (cX.getD (0+(b-1).toNat) a1.I) i.2.2 Q;generalize jt (cX.getD (0+(b-1).toNat) a1.I) i.2.2=k at *;have j:a9 q [(80,d8 [bV e.1,eo d] (bV i)),(79,d8 [kl (cX.getD (0+(b-1).toNat) a1.I),a1.C i.2.2] (mb k))]:=.cons (eg aG) (.cons (eg F) .nil);have z:a7 .i64 (b-1):=m3;have ck:0<=b-1/\b-1<((2:Nat):Int):=x;have D:2=2/\0+(b-1).toNat<2:=⟨rfl,A⟩;refine bf j [901] a C ?_;refine g.cj b5 (aft e d b (cX.getD (0+(b-1).toNat) a1.I) i k) (lm (Iv h e d cX B k.1) 19 17 18) a a a a
  ⟨.aD,
  .aD,
  .aD,
  .du ba j (ck:=by exact z),
  .du ba j (ck:=by exact ck),
  .du ba j (ck:=by exact D),
  .aD,
  .aD,
  .aD,
  .aD,
  .aD,
  .du ba j (ck:=by exact a),
  .aD,
  .du ba j (ck:=by exact a),
  .aD,
  .aD,
  .aD,
  b4.eg a a a a a (λw=>by cases w<;>exact dS (bg:=[]) ba j (ao:=f _) a C),
  b4.eh a a a a a (λw=>by cases w<;>exact dS (bg:=[]) ba j (ao:=f _) a C),
  b4.ef a a a a (λr I=>by cases r<;>cases I<;>exact aJ.x),C⟩ ?_
 intro y s;show g q _ _ _ _ _ (Iv h e d cX B k.1 (y 19) (y 17) (y 18));rw[s 19 b9,s 17 b9,s 18 b9];have t:B.getD (0+(b-1).toNat) aC.I=B.getD (b-1).toNat 0:=rb;by_cases o:B.getD (b-1).toNat 0=0
 .rw[br o];refine bf j [30] a ?_ ?_
  .simp only[U,t,o,a7,fT,a',a_];omega
  have l:=a1.cS cX (0+(b-1).toNat) k.1 2 x;have n:=aC.cS B (0+(b-1).toNat) k.2 2 x;rw[cV]at l n;refine g.bf [.q 46 2 2 (a1.fn (cX.set (b-1).toNat k.1)),.q 3 1 2 (aC.fn (B.set (b-1).toNat k.2)),.cells 35 (gM h e d 0),.cells 35 (gM h e d 0),yT k.1] a ?_ ?_
  .simp only[U.Y,U,cV,a',a_];and_intros<;>first|exact bt.same|exact l|exact n|rfl
  exact PU
 rw[bl o];refine bf j [-30] a ?_ ?_
 .simp only[U,t,a7,eM,d',a',a_];and_intros<;>first|exact o|omega
 exact PU
abbrev jc:=dW×dO×n (Int×Int)×n Int
def nL(d:Int)(b:jc)(a:Int)(e:n cZ):jc×Bool:=
 if(g_ a b.1.1 b.2.1 b.2.2).2.getD (a-1).toNat 0=0/\b.2.1.1=0 then
  (if(fY d b.1 a e).2=m then(((fY d b.1 a e).1,b.2.1,g_ a (fY d b.1 a e).1.1 b.2.1 (g_ a b.1.1 b.2.1 b.2.2)),m)else((b.1,b.2.1,g_ a b.1.1 b.2.1 b.2.2),v))
 else((b.1,b.2.1,g_ a b.1.1 b.2.1 b.2.2),v)
def cw(d:Int)(a:jc)(b:fK):jc×Bool:=
 if b.1=1 then(if(1<=b.2.1/\b.2.1<=2)/\dX b.2.2.1=m then nL d a b.2.1 b.2.2.1 else(a,v))
 else if b.1=2 then(if 1<=b.2.1/\b.2.1<=2 then((a.1,a.2.1,g_ b.2.1 a.1.1 a.2.1 a.2.2),m)else(a,v))
 else if b.1=3 then((a.1,b.2.2.2.1,a.2.2),m)
 else if b.1=4 then(if c a.1.2.2=0 then(((kL d a.1.1 b.2.2.2.2).1,a.2),m)else(a,v))
 else if b.1=5 then((jx a.1,a.2),qC a.1)
 else(a,v)
structure fS(j:Nat)(b:jc):Prop where
 a:fo (6000+240*j) b.1
 bl:c b.2.2.1=2
 b9:c b.2.2.2=2
def Em{b}{cv}{o}(g:fo j b)(e:(fY h b cv o).2=m):fo (j+240) (fY h b cv o).1/\(fY h b cv o).1=r5 h b cv o/\hd h b=m/\(1<=cv/\cv<=2)/\dX o=m/\fO h b.1 o=v:=by
 unfold fY at e⊢;split at e
 .rename_i d;rw[br d];simp only[rX,cC,bA]at d;split at e
  .cases e
  rename_i r;have r:fO h b.1 o=v:=by simpa using r
  rw[bl F7];exact⟨g.dh d.2 d.1.2 r,a,d.1.1,d.1.2,d.2,r⟩
 cases e
def fS.dh{b}{cv}{o}(t:fS j b):fS (j+1) (nL h b cv o).1:=by
 have bT:=tq (cv:=cv) (b:=b.1.1) (d:=b.2.1) (bc:=b.2.2) t.bl t.b9;unfold nL;split
 .split
  .rename_i i;have a:=tq (cv:=cv) (b:=(fY h b.1 cv o).1.1) (d:=b.2.1) (bc:=g_ cv b.1.1 b.2.1 b.2.2) bT.1 bT.2;exact⟨(Em t.a i).1.mono x,a.1,a.2⟩
  exact FK
 exact FK
def fS.mono{j z}{b}(a:fS j b)(d:j<=z):fS z b:=⟨a.a.mono x,a.bl,a.b9⟩
def fS.do{b}{a}(t:fS j b):fS (j+1) (cw h b a).1:=by
 unfold cw;split
 .split
  .exact t.dh
  exact t.mono x
 split
 .split
  .have bT:=tq (cv:=a.2.1) (b:=b.1.1) (d:=b.2.1) (bc:=b.2.2) t.bl t.b9;exact FK
  exact t.mono x
 split
 .exact⟨t.a.mono x,t.bl,t.b9⟩
 split
 .split
  .exact⟨(fo.iw t.a.bc).mono x,t.bl,t.b9⟩
  exact t.mono x
 split
 .exact⟨(fo.step t.a).mono x,t.bl,t.b9⟩
 exact t.mono x
abbrev Cm(b:Int)(a:jc):y:=.p (.agg (gM b a.1 a.2.1 0))
abbrev EW(d:Int)(a:jc)(b:Bool):y:=.ae [.agg (gM d a.1 a.2.1 0),.R (.c (.bool b))]
abbrev g8(a:jc):n an:=lq a.2.2.1 a.2.2.2
def Xt(h)(b)(cv)(o)(j)(k:fS j b)(D:j<=1000)(u:1<=cv/\cv<=2):
  Y q 44 [Cm h b,R cv,bC.C o] (g8 b) (EW h (nL h b cv o).1 (nL h b cv o).2) (g8 (nL h b cv o).1):=by
 refine Y.bm ba func44 rfl rfl rfl λB=>?_;have w:=CD (q:=q) h b.1 b.2.1 cv b.2.2.1 b.2.2.2 k.a.bc.dG u k.bl k.b9;have z:=X7 (q:=q) h b.1 cv o (k.a.ca x);have s:=tq (cv:=cv) (b:=b.1.1) (d:=b.2.1) (bc:=b.2.2) k.bl k.b9;have y:=Em (h:=h) (cv:=cv) (o:=o) k.a;unfold nL;rw[show((b.2.2.1,b.2.2.2):n (Int×Int)×n Int)=b.2.2 from a]at w;generalize g_ cv b.1.1 b.2.1 b.2.2=e at *;have r:e.2.getD (0+(cv-1).toNat) aC.I=e.2.getD (cv-1).toNat 0:=rb;refine cr a C (g.aC w [0,1] a ?_);by_cases i:e.2.getD (cv-1).toNat 0=0
 rotate_left
 .rw[bl (λk=>i k.1)];refine bN [19,25] a ?_ ?_
  .simp only[U,r,a7,iI,d',a',a_];and_intros<;>first|exact i|omega
  exact o1
 by_cases l:b.2.1.1=0
 rotate_left
 .rw[bl (λk=>l k.2)];refine bN [-19,25] a ?_ ?_
  .simp only[U,r,i,a7,iI,ip,d',a',a_];and_intros<;>first|exact l|omega
  exact o1
 rw[br ⟨i,l⟩];refine bN [-19,-25] a ?_ ?_
 .simp only[U,r,i,l,a7,ip,a',a_];omega
 refine g.aC z [] a ?_;cases jL:(fY h b.1 cv o).2 with
 |false=>
  rw[bl E];exact bN [38] a uk o1
 |true=>
  rw[br a];have A:=(y jL).1;generalize(fY h b.1 cv o).1=w2 at *;have t:=CD (q:=q) h w2 b.2.1 cv e.1 e.2 A.bc.dG u s.1 s.2;rw[show((e.1,e.2):n (Int×Int)×n Int)=e from a]at t;exact bN [-38] a uk (g.aC t [0,1] a (cr a C o1))
def tR(j):∀(e b:n Int)i,(b++e).Pairwise (· < ·)->(if i=m then True else ∀d∈b,d<j)->(i=m->∀d∈e,j<=d/\(j∈b)) ->
  (if(e.foldl (gg j) (b,i)).2=m then(e.foldl (gg j) (b,i)).1 else(e.foldl (gg j) (b,i)).1++[j]).Pairwise (· < ·)
 |[],b,i,t,r,_=>by
  simp[h2]at t;cases i<;>simp at r⊢
  .exact pe.2 ⟨t,by simp,by exact bw⟩
  omega
 |h::e,b,i,t,r,y=>by
  rw[kb];obtain⟨x,o,s⟩:=pe.1 t;obtain⟨w,A⟩:=iG.1 o;have B:∀d∈b,d<h:=λd g=>s d g h jf;have l:((b++[h])++e).Pairwise (· < ·):=wP;have u:(b++e).Pairwise (· < ·):=pe.2 ⟨x,A,λd g q k=>s d g q (nf _ k)⟩;unfold gg;cases i with
  |true=>
   simp[dH];split
   .exact tR j e b m u E λ_ d g=>⟨by grind,(y a h jf).2⟩
   exact tR j e (b++[h]) m l E λ_ d g=>⟨by grind,List.mem_append_left _ (y a h jf).2⟩
  |false=>
   simp[ka,dh]at r⊢;split
   .split
    .rename_i z;subst z;exact tR h e (b++[h]) m l E λ_ d g=>⟨by grind,by simp⟩
    refine tR j e (b++[j,h]) m ?_ E λ_ d g=>⟨by grind,by simp⟩
    rw[mt];refine pe.2 ⟨x,iG.2 ⟨λq k=>?_,o⟩,λd g q k=>?_⟩
    .rcases fr.1 k with rfl|k
     .omega
     have:=w q k;omega
    rcases fr.1 k with rfl|k
    .exact r d g
    exact s d g q k
   exact tR j e (b++[h]) v l (by simp;grind) E
def aaJ{d}{j}(t:d.Pairwise (· < ·)):(e8 d j).Pairwise (· < ·):=tR j d [] v wP E E
def C8:∀{d a:n Int},a.Pairwise (· < ·)->(d.foldl e8 a).Pairwise (· < ·)
 |[],a,b=>b
 |e::d,a,b=>C8 (d:=d) (aaJ b)
def aa_(d):(h9 d).Pairwise (· < ·):=by
 unfold h9;have:∀(d:n eh) b,b.Pairwise (· < ·)->(d.foldl (λa e=>(gI e.2).foldl e8 a) b).Pairwise (· < ·):=λd=>by
  induction d with
  |nil=>simp
  |cons e d g=>exactλb h=>g _ (C8 h)
 simp_all
def YK(d):c (d.flatMap fZ)<=c (hi d):=by
 induction d with
 |nil=>simp
 |cons k d a=>
  have:c (fZ k)<=c (eb k.2):=RD;simp[hi,sC,dm]at a⊢;omega
def rQ(b:n Int)(d:Int):Int:=match b.findIdx? (λe=>e==d)with
 |some a=>a
 |none=>-1
def Vq(d)(aa):Y q 150 [aC.C d,R aa] [] (R (rQ d aa)) []:=by
 refine Y.K func150 rfl λk=>?_;have s:=k.C 0 a;refine aZ a C (g.aE 0 (λb=>b<=c d/\∀e,e<b->d.getD e 0≠aa) (λb:Nat=>[(0,aC.C d),(1,R aa),(7,R (c d)),(8,R b)]) (λ_=>[]) (λb=>c d-b) 0 a E a C a ⟨by omega,by omega⟩ ?_);rintro b ⟨n,o⟩;by_cases j:b<c d
 .have i:d.getD (b:Int).toNat aC.I=d.getD b 0:=rfl;by_cases r:d.getD b 0=aa
  .have:rQ d aa=b:=by
    have:d.findIdx? (λh=>h==aa)=f b:=by rw[uJ];exact⟨j,by grind,λe l=>by grind⟩
    simp[rQ,this]
   rw[this];refine a6 [9,16] a ?_ (g.aX (bX.zero a));simp only[U,i,bA,gZ,a',a_];and_intros<;>first|omega|omega
  refine a6 [9,-16] a ?_ (g.ax (b+1) a ?_ C ⟨j,λe l=>?_⟩ x)
  .simp only[U,i,a7,bA,eM,a',a_];and_intros<;>first|grind|omega
  .simp
  grind
 have:rQ d aa=-1:=by have:d.findIdx? (λh=>h==aa)=p:=wN;simp[rQ,this]
 rw[this];exact QP
abbrev BK:bK:=eu (e2 aC) c1 (λa b=>bh (a.contains b)) λ_ _=>[]
def M0:bM q 100 BK:=.bn λb d _=>by refine Y.K func100 rfl λh=>?_;have e:a9 q [(150,eu (e2 aC) c1 (λb d=>R (rQ b d)) λ_ _=>[])]:=.cons (.bn λb d _=>Vq b d) .nil;refine b_ e a N2 (g.ar a ?_);simp[U,aC.m,a_];unfold rQ;grind
def U4(k)(b):Y q 99 [iO k,aw (.Q [.C v 1 (c b) (aC.fn b)])] [] (bh (!b.contains k.1)) []:=by refine Y.K func99 rfl λe=>?_;have d:a9 q [(100,BK)]:=.cons M0 .nil;refine b_ d a N2 (g.ar a ?_);simp only[aC.m];simp
abbrev GO(e:cj)(b:n eh)(d:Q)(a:n Int)(h:Z)(g:n Int):n an:=[jZ e,.M,.cells 30 me,.M,.M,.cells 30 [cJ a2 e.1,cJ bi b,cJ a1 e.2.2,d,.w 6 1 (c a) (aC.fn a)],.w 3 1 (c a) (aC.fn a),jh h g]
def Ub(h)(b)(i)(l:dL b)(s:n6 b):Y (ag.aJ T) 53 [R h,bV b,aC.C i] [] (j1 (kL h b i).1 (kL h b i).2) []:=by
 refine Y.bB func53 rfl rfl rfl λy=>?_;have k:a9 (ag.aJ T) [(83,xN)]:=.cons ET .nil;have O:=l.a2;have V:=l.a7;unfold kL;cases q:hX h b with
 |false=>
  refine g.aR b5 db k [17] 200 a ?_ ?_
  .simp only[U,a2.m,a2.U,bi.m,bi.U,a1.m,a1.U,q,s,a',a_,hH]
  refine g.freeze 6 2 a a a ?_;refine g.cb db [] a ?_ a a a ft;simp
 |true=>
 rw[br a];refine g.aR b5 db k [-17] 200 a ?_ ?_
 .simp only[U,a2.m,a2.U,bi.m,bi.U,a1.m,a1.U,q,s,a',a_,fq]
 refine g.aC (pq b l.a2 l.bu l.a7 l.bx l.aP) [] a (g.aR b5 db k [904] 200 a C (g.freeze 5 1 a a a ?_));refine g.aR b5 db k [] 200 a C (g.a8 (IZ b.2.1 l.a7 99 [.C v 1 (c i) (aC.fn i)] (λj=>!i.contains j.1) λj _=>U4 j i) [4] a bm ?_);rintro⟨F,B⟩;simp only[Bool.not_not]at B⊢;have A:c (b.2.1.filter λj=>i.contains j.1)<=c b.2.1:=kI _ _;have J:∀j∈b.2.1.filter (λj=>i.contains j.1),j∈b.2.1:=λj r=>(kJ.1 r).1;have M:c (hi (b.2.1.filter λj=>i.contains j.1))<=c (hi b.2.1):=Gx b.2.1 λj=>i.contains j.1;generalize b.2.1.filter (λj=>i.contains j.1)=d at *;refine g.aR b5 db k [905] 200 a C (g.bC 4 a a a (by simp;exact A) (by simp;exact⟨C,A⟩) (g.bC 3 a a a E (by simp;exact C) (g.cr 5 4 3 1 (aC.fn []) a a ?_)));refine g.bf [jZ b,.M,.cells 30 me,.M,.M,.cells 30 [cJ a2 b.1,cJ bi d,cJ a1 b.2.2,cD,.w 6 1 0 (aC.fn [])],.w 3 1 0 (aC.fn [])] a ?_ ?_
 .simp only[U.Y,U,a',a_];and_intros<;>first|exact bt.same|exactλe o=>B e o|rfl|simp
 refine g.aR b5 db k [] 200 a C (g.h1 a a a λu=>?_);refine g.aR b5 db k [] 200 a C ?_;refine g.aE 8 (λe=>e<=c d) (λe:Nat=>[(4,aD 0 0),(6,aD 2 0),(8,aD 5 0),(9,s3 u),(32,bi.C d),(33,R (c d)),(34,R e)])
  (λe=>GO b d cD [] u ((d.take e).flatMap fZ)) (λe=>c d-e) 0 a E a E a x ?_
 intro e o;by_cases n:e<c d
 .have w:d.getD e bi.I=d.getD e (0,[]):=rfl;have r:=s.d_ _ (J _ (oC (I:=(0,[])) n));have S:=Gz n;have K:=s.eC;have z:(d.take (e+1)).flatMap fZ=(d.take e).flatMap fZ++fZ (d.getD e (0,[])):=by rw[ig n (0,[])];simp
  generalize d.getD e (0,[])=j at *;refine g.aR b5 db k [35] 200 a bW ?_;simp only[c5,w];refine g.aC (CG j r.1 x) [] a (g.aR b5 db k [] 200 a C (g.aC (IM u ((d.take e).flatMap fZ) (fZ j)) [7] a ?_));rw[<-z];refine g.aR b5 db k [] 200 a ?_ (g.ax (e+1) a E E n x);exact nU
 obtain rfl:e=c d:=x;rw[c_];have W:=YK d;have K:=s.eC;refine g.aR b5 db k [-35] 200 a E (g.aB ?_);refine g.aR b5 db k [] 200 a C (g.aC (Ws u (d.flatMap fZ) (h9 d) x (aa_ d) λN=>by rw[vF];simp[yQ]) [7] a (g.aR b5 db k [] 200 a C ?_));refine g.aE 8 (λe=>e<=c b.1) (λe:Nat=>[(4,aD 0 0),(6,aD 2 0),(8,aD 5 0),(47,a2.C b.1),(48,R (c b.1)),(49,R e)])
  (λe=>GO b d (cJ aC (h9 d)) ((b.1.take e).map (·.1)) u (d.flatMap fZ)) (λe=>c b.1-e) 0 a E a E a x ?_
 intro e o;have Q:c ((b.1.take e).map (·.1))=e:=bW;by_cases n:e<c b.1
 .have w:b.1.getD e a2.I=b.1.getD e (0,[]):=rfl;have z:=map_take (ae:=λt:cb=>t.1) n (0,[]);generalize(b.1.take e).map (λt:cb=>t.1)=D at *;generalize b.1.getD e (0,[])=t at *;have r:=aC.a0 D t.1;refine g.aR b5 db k [50] 200 a ?_ (g.ax (e+1) a E ?_ n x)
  .simp[-al,w,n,a7,show ef.bytes=8 from a];omega
  rw[z];simp only[U.Y,U,c5,w,dm,gW,a',a_];and_intros<;>first|exact bt.same|exact r|rfl|omega
 obtain rfl:e=c b.1:=x;rw[c_];refine g.aR b5 db k [-50] 200 a E (g.aB ?_);refine g.aR b5 db k [] 200 a C (g.freeze 8 5 a a a ?_);refine g.freeze 6 2 a a a ?_;refine g.cb db [] a ?_ a a a ft;simp[bi.m]
def I0(h)(b)(d)(j)(e:fS j b)(u:j<=1000):
  Y q 17 [Cm h b,lS d] (g8 b) (EW h (cw h b d).1 (cw h b d).2) (g8 (cw h b d).1):=by
 refine Y.bm ba func17 rfl rfl rfl λy=>?_;have l:=e.a.ca x;have w:a9 q [(29,jM),(43,sT),(46,Ha)]:=.cons kA (.cons zy (.cons ad4 .nil));unfold cw;by_cases B:d.1=1
 .rw[br B];by_cases r:1<=d.2.1/\d.2.1<=2
  rotate_left
  .rw[bl (λe=>r e.1)];refine bf w [13,-16,-21] a ?_ ?_
   .simp only[U,B,fT,a',a_];grind
   exact o1
  cases i:dX d.2.2.1 with
  |false=>
   rw[bl E];exact bf w [13,16,-21] a Ra o1
  |true=>
   rw[br ⟨r,rfl⟩];have o:=Xt (q:=q) h b d.2.1 d.2.2.1 j e u r;exact bf w [13,16,21] a Ra (g.aC o [0,1] a FG)
 rw[bl B];by_cases r:d.1=2
 .rw[br r];by_cases i:1<=d.2.1/\d.2.1<=2
  rotate_left
  .rw[bl i];refine bf w [-13,31,-34] a ?_ ?_
   .simp only[U,r,fT,a',a_];grind
   exact o1
  rw[br i];have t:=CD (q:=q) h b.1 b.2.1 d.2.1 b.2.2.1 b.2.2.2 e.a.bc.dG i e.bl e.b9;refine bf w [-13,31,34] a ?_ ?_
  .simp only[U,r,i,lI,and_self,fT,a',a_];decide
  exact g.aC t [0,1] a FG
 rw[bl r];by_cases i:d.1=3
 .rw[br i];refine bf w [-13,-31,40] a ?_ ?_
  .simp only[U,i,fT,a',a_];decide
  exact o1
 rw[bl i];by_cases n:d.1=4
 .rw[br n];by_cases k:c b.1.2.2=0
  .rw[br k];have s:(c b.1.2.2:Int)=0:=x;refine bf w [-13,-31,-40,46,51] a ?_ ?_
   .simp only[U,n,s,l.bc,l.b',a2.m,a2.U,bi.m,bi.U,a1.m,a1.U,aC.m,aC.U,fT,a',a_];decide
   refine g.cv () [0,1] ?_ ym;exact Ab
  rw[bl k];refine bf w [-13,-31,-40,46,-51] a ?_ ?_
  .simp only[U,n,fT,eM,d',a',a_];and_intros<;>first|decide|omega
  exact o1
 rw[bl n];by_cases k:d.1=5
 .rw[br k];have o:=XR (q:=q) b.1 l.bc l.cA l.cL;refine bf w [-13,-31,-40,-46,67] a ?_ ?_
  .simp only[U,k,fT,a',a_];decide
  exact g.aC o [] a FG
 rw[bl k];refine bf w [-13,-31,-40,-46,-67] a ?_ ?_
 .simp only[U,eM,d',a',a_];grind
 exact o1
abbrev vA(a:dO):n Q:=[.c (.int .i64 a.1),.c (.int .i64 a.2.1),.c (.int .i64 a.2.2.1),.c (.T a.2.2.2)]
abbrev Cj(cX:n (Int×Int))(a:n Int):n an:=[.q 46 2 (c cX) (a1.fn cX),.q 3 1 (c a) (aC.fn a)]
abbrev zQ(a:dG)(d b:Nat):n Q:=.c (.int .i64 a.1)::([cJ a2 a.2.1.1.1,cJ bi a.2.1.1.2.1,cJ a1 a.2.1.1.2.2,cJ aC a.2.1.2.1,.w d 1 (c a.2.1.2.2) (aC.fn a.2.1.2.2)]++vA a.2.2.1++[.S b (.C (c a.2.2.2.1) 2 0 (c a.2.2.2.1)),.S (b+1) (.C (c a.2.2.2.2) 1 0 (c a.2.2.2.2))])
abbrev m2(a:dG):an:=.cells 35 (hY a)
abbrev hR(a:dW):an:=.w 3 1 (c a.2.2) (aC.fn a.2.2)
def Io(a:dG)(d e g h:Bool):n an:=
 match d,e,g,h with
 |true,m,m,m=>[m2 a,.cells 35 (.c (.int .i64 a.1)::([cJ a2 a.2.1.1.1,cJ bi a.2.1.1.2.1,cJ a1 a.2.1.1.2.2,cJ aC a.2.1.2.1,.w 2 1 (c a.2.1.2.2) (aC.fn a.2.1.2.2)]++vA a.2.2.1++[.S 3 (.C (0+c a.2.2.2.1) 2 0 (0+c a.2.2.2.1)),.S 4 (.C (0+c a.2.2.2.2) 1 0 (0+c a.2.2.2.2))])),hR a.2.1,
   .q 46 2 (0+c a.2.2.2.1) (cf 0 (λb=>([]:n (n O)).getD b []) (a1.fn a.2.2.2.1)),.q 3 1 (0+c a.2.2.2.2) (cf 0 (λb=>([]:n (n O)).getD b []) (aC.fn a.2.2.2.2))]
 |true,m,m,v=>[m2 a,fI,hR a.2.1,.q 46 2 (0+c a.2.2.2.1) (cf 0 (λb=>([]:n (n O)).getD b []) (a1.fn a.2.2.2.1)),.q 3 1 (0+c a.2.2.2.2) (cf 0 (λb=>([]:n (n O)).getD b []) (aC.fn a.2.2.2.2))]
 |true,m,v,_=>[m2 a,fI,hR a.2.1,.q 46 2 (0+c a.2.2.2.1) (cf 0 (λb=>([]:n (n O)).getD b []) (a1.fn a.2.2.2.1))]
 |true,v,_,_=>[m2 a,fI,hR a.2.1]
 |false,_,_,_=>[m2 a,fI]
abbrev K3(b:Nat):y:=aw (.C m b 0 λa=>([]:n (n O)).getD a [])
abbrev EI(a:dW)(b:Nat):n Q:=[cJ a2 a.1.1,cJ bi a.1.2.1,cJ a1 a.1.2.2,cJ aC a.2.1,.w b 1 (c a.2.2) (aC.fn a.2.2)]
abbrev afm(a:dG)(b:Nat):y:=
 [aD 0 0,R a.1,aD 0 1,gn a.2.1,.p (.agg (EI a.2.1 2)),aD 0 6,eo a.2.2.1,K3 2,aD 0 10,a1.C a.2.2.2.1,cz 3 (.C (0+c a.2.2.2.1) 2 0 (0+c a.2.2.2.1)),K3 1,aD 0 11,aC.C a.2.2.2.2,cz 4 (.C (0+c a.2.2.2.2) 1 0 (0+c a.2.2.2.2)),
  .p (.agg (.c (.int .i64 a.1)::(EI a.2.1 2++vA a.2.2.1++[.S 3 (.C (0+c a.2.2.2.1) 2 0 (0+c a.2.2.2.1)),.S 4 (.C (0+c a.2.2.2.2) 1 0 (0+c a.2.2.2.2))]))),.any].getD b .any
set_option maxRecDepth 20000 in
def vd(b)(r:p9 b.2.1)(j:c b.2.2.2.1<=4000000)(I:c b.2.2.2.2<=4000000):Y q 18 [ep b] [] (.p (.agg (zQ b 0 1))) ([hR b.2.1]++Cj b.2.2.2.1 b.2.2.2.2):=by
 refine Y.bm ba func18 rfl rfl rfl λk=>?_;have w:a9 q [(48,la [gn b.2.1] [] (.p (.agg (EI b.2.1 0))) [hR b.2.1])]:=.cons (ma (IU b.2.1 r.bc r.cA r.cL)) .nil;have h:(0+c b.2.2.2.1)*yE.bytes<=140737488355328:=by rw[show yE.bytes=16 from a];omega
 have e:(0+c b.2.2.2.2)*ef.bytes<=140737488355328:=by rw[show ef.bytes=8 from a];omega
 refine bf w [901] a C ?_;refine g.cj b5 (afm b) (mE (Io b) 4 10 14 16) a a a a
  ⟨.aZ,
  .aZ,
  .aZ,
  .aZ,
  b4.ay a a a a a a (dS (bg:=[]) ba w (ao:=f _) a ⟨rfl,rfl⟩),
  .aZ,
  .aZ,
  .aZ,
  .aZ,
  .aZ,
  b4.eU a a a a a a (dS (bg:=[3000013]) ba w (ao:=f _) a h),
  .aZ,
  .aZ,
  .aZ,
  b4.eW a a a a a a (dS (bg:=[3000017]) ba w (ao:=f _) a e),
  .aZ,
  b4.eX a a a a a a (dS (bg:=[]) ba w (ao:=f _) a C),C⟩ ?_
 intro y i;show g q _ _ _ _ _ (Io b (y 4) (y 10) (y 14) (y 16));rw[i 4 b9,i 10 b9,i 14 b9,i 16 b9];refine qV w [] 1 a C (g.bf [m2 b,.cells 35 (zQ b 2 3),hR b.2.1,.q 46 2 (c b.2.2.2.1) (a1.fn b.2.2.2.1),.q 3 1 (c b.2.2.2.2) (aC.fn b.2.2.2.2)] a ?_ ?_)
 .simp[pg]
 refine g.bh () [2,3,4] ?_ (λl d=>absurd d E);simp
def UC(b)(i:p9 b.2.1)(d:c b.2.2.2.1<=4000000)(h:c b.2.2.2.2<=4000000):Y q 18 [ep b] [] (ep b) []:=by have e:=Y.bQ (aO:=[hR b.2.1,.q 46 2 (c b.2.2.2.1) (a1.fn b.2.2.2.1)]) (vd (q:=q) b i d h) a E a E;have g:=Y.bQ (aO:=[hR b.2.1]) e a E a E;refine g.b4 a ?_ a;simp[hA]
end
section
variable {q:ag T}
def Jk(z)(d)(e:c d<=4000000):Y q 95 [kl z,a1.C d] [] (mb (jt z d)) []:=by refine Y.bm ba func95 rfl rfl rfl λi=>?_;have h:a9 q [(10,d8 [kl z,a1.C d] (mb (jt z d)))]:=.cons (eg (CK z d e)) .nil;refine b_ h a (by simp[a1.m];rfl) ?_;refine g.cv () [] ?_ (λj b=>absurd b E);simp
abbrev po(a:fK):an:=.cells 38 (Cs a)
abbrev pV(a:Int)(d:dW)(b:dO):an:=.cells 35 (gM a d b 6)
abbrev acP(a:Int×Int):y:=aw (.val (.func (.func 95) #[.agg [.int .i64 a.1,.int .i64 a.2].toArray] #[]))
abbrev pG(d b:aq×Z)(a:dG)(e:fK):n an:=i' d b++[.cells 35 (hY a),po e,fI]
abbrev NM(h:Nat)(i:dW)(e:dO)(g:Int×Int)(b:cj)(a:(Int×Int)×Int)(d:Nat):y:=
 [acP g,aD 8 0,aD 8 0,aD 8 1,aD 8 1,bV i.1,aD 8 0,aD 8 0,aD 8 6,eo e,bV b,a1.C b.2.2,mb a,mb a,kl a.1,R a.2,aD h 0,.any,R a.2].getD d .any
def x0(a:n an)(b:Int×Int)(_ d e:Bool):n an:=
 match d,e with
 |false,_=>a
 |true,v=>a++[zT]
 |true,m=>a++[yT b]
abbrev qv(b:n Int):={a:Nat->n O // bt 2 a (aC.fn b)}
abbrev oe(e d:aq×Z)(b:dG)(g:fK)(i:Int)(k:dW)(j:dO)(cX:n (Int×Int))(a:Nat->n O)(h:fK):n an:=pG e d b g++[.q 46 2 2 (a1.fn cX),.q 3 1 2 a,pV i k j]++[po h]
set_option maxRecDepth 20000 in
def IT(s j)(n)(e)(z)(h)(l)(d)(b)(cX)(k)(D:o5 l.1)(M:1<=b/\b<=2)(S:c cX=2)(Q:c k=2):
  bk (ι:=qv (g_ b l.1 d (cX,k)).2) q 51 [aD 8 0,R b] (oe s j n e h l d cX (aC.fn k) z) (λ_=>.ae []) (λF=>oe s j n e h l d (g_ b l.1 d (cX,k)).1 F.1 z++[.M]):=by
 refine bk.bR func51 rfl rfl rfl (g.aT ?_);have J:=(r7 (q:=q) D d).ea.aP;have aG:=Dp (q:=q) D d;unfold g_;generalize l5 l.1 d=o at *;have N:(b-1).toNat<2:=x;have T:(0:Nat)+(b-1).toNat<2:=x;have K:cX.getD (b-1).toNat (0,0)=cX.getD (0+(b-1).toNat) a1.I:=rb;rw[K];have E:=Jk (q:=q) (cX.getD (0+(b-1).toNat) a1.I) o.2.2 J;generalize jt (cX.getD (0+(b-1).toNat) a1.I) o.2.2=t at *;have i:a9 q [(35,d8 [bV l.1,eo d] (bV o))]:=.cons (eg aG) .nil;have B:k.getD (0+(b-1).toNat) aC.I=k.getD (b-1).toNat 0:=rb;by_cases u:k.getD (b-1).toNat 0=0
 rotate_left
 .rw[bl u];refine g.fj 0 1 ?_;refine g.cW 10 a bm ?_;refine bf i [15] a ?_ ?_
  .simp only[U,B,a7,iI,d',a',a_];and_intros<;>first|exact u|omega
  exact Pa
 rw[br u];refine bf i [-15] a ?_ ?_
 .simp only[U,B,u,a7,ip,a',a_];omega
 refine g.cJ _ _ a a (eC.hv a a a) λO=>?_;refine bf i [902] a C ?_;refine g.cj b5 (NM 10 l d (cX.getD (0+(b-1).toNat) a1.I) o t) (lm (x0 (oe s j n e h l d cX (aC.fn k) z) t.1) 18 16 17) a a a a
  ⟨.aD,
  .aD,
  .aD,
  .aD,
  .aD,
  .aD,
  .aD,
  .aD,
  .aD,
  .aD,
  .du ba i (ck:=by exact a),
  .aD,
  b4.bN a a a (λw r I=>aJ.gV (λ_ _ _ _=>iZ a) a a O.2 a E a a a),
  .aD,
  .aD,
  .aD,
  b4.eg a a a a a (λw=>by cases w<;>exact dS (bg:=[]) ba i (ao:=f _) a C),
  b4.eh a a a a a (λw=>by cases w<;>exact dS (bg:=[]) ba i (ao:=f _) a C),
  b4.ef a a a a (λr I=>by cases r<;>cases I<;>exact aJ.x),C⟩ ?_
 intro y A;show g q _ _ _ _ _ (x0 (oe s j n e h l d cX (aC.fn k) z) t.1 (y 18) (y 16) (y 17));rw[A 18 b9,A 16 b9,A 17 b9];refine bf i [904] a ua (g.cW 10 a bm ?_);have dN:=a1.cS cX (0+(b-1).toNat) t.1 2 x;have eJ:=aC.cS k (0+(b-1).toNat) t.2 2 x;rw[cV]at dN eJ;refine g.bf (oe s j n e h l d (cX.set (b-1).toNat t.1) (aC.fn k) z++[.M]) a PN ?_;exact Pt
abbrev uW(h g:aq×Z)(b:dG)(d:fK)(j:Int)(l:dW)(k:dO)(cX:n (Int×Int))(a:Nat->n O)(i:fK)(e:dW):n an:=pG h g b d++[.q 46 2 2 (a1.fn cX),.q 3 1 2 a,pV j l k]++[po i,.M,gh e]
set_option maxRecDepth 20000 in
def Uu(s j)(n)(e)(z)(u)(h)(l)(d)(b)(cX)(k)(E:o5 l.1)(N:1<=b/\b<=2)(T:c cX=2)(M:c k=2):
  bk (ι:=qv (g_ b l.1 d (cX,k)).2) q 51 [aD 8 0,R b] (uW s j n e h l d cX (aC.fn k) z u) (λ_=>.ae []) (λJ=>uW s j n e h l d (g_ b l.1 d (cX,k)).1 J.1 z u++[.M]):=by
 refine bk.bR func51 rfl rfl rfl (g.aT ?_);have K:=(r7 (q:=q) E d).ea.aP;have aG:=Dp (q:=q) E d;unfold g_;generalize l5 l.1 d=o at *;have S:(b-1).toNat<2:=x;have V:(0:Nat)+(b-1).toNat<2:=x;have Q:cX.getD (b-1).toNat (0,0)=cX.getD (0+(b-1).toNat) a1.I:=rb;rw[Q];have O:=Jk (q:=q) (cX.getD (0+(b-1).toNat) a1.I) o.2.2 K;generalize jt (cX.getD (0+(b-1).toNat) a1.I) o.2.2=t at *;have i:a9 q [(35,d8 [bV l.1,eo d] (bV o))]:=.cons (eg aG) .nil;have D:k.getD (0+(b-1).toNat) aC.I=k.getD (b-1).toNat 0:=rb;by_cases A:k.getD (b-1).toNat 0=0
 rotate_left
 .rw[bl A];refine g.fj 0 1 ?_;refine g.cW 12 a bm ?_;refine bf i [15] a ?_ ?_
  .simp only[U,D,a7,iI,d',a',a_];and_intros<;>first|exact A|omega
  exact Pa
 rw[br A];refine bf i [-15] a ?_ ?_
 .simp only[U,D,A,a7,ip,a',a_];omega
 refine g.cJ _ _ a a (eC.hv a a a) λF=>?_;refine bf i [902] a C ?_;refine g.cj b5 (NM 12 l d (cX.getD (0+(b-1).toNat) a1.I) o t) (lm (x0 (uW s j n e h l d cX (aC.fn k) z u) t.1) 18 16 17) a a a a
  ⟨.aD,
  .aD,
  .aD,
  .aD,
  .aD,
  .aD,
  .aD,
  .aD,
  .aD,
  .aD,
  .du ba i (ck:=by exact a),
  .aD,
  b4.bN a a a (λw r I=>aJ.gV (λ_ _ _ _=>iZ a) a a F.2 a O a a a),
  .aD,
  .aD,
  .aD,
  b4.eg a a a a a (λw=>by cases w<;>exact dS (bg:=[]) ba i (ao:=f _) a C),
  b4.eh a a a a a (λw=>by cases w<;>exact dS (bg:=[]) ba i (ao:=f _) a C),
  b4.ef a a a a (λr I=>by cases r<;>cases I<;>exact aJ.x),C⟩ ?_
 intro y B;show g q _ _ _ _ _ (x0 (uW s j n e h l d cX (aC.fn k) z u) t.1 (y 18) (y 16) (y 17));rw[B 18 b9,B 16 b9,B 17 b9];refine bf i [904] a ua (g.cW 12 a bm ?_);have dN:=a1.cS cX (0+(b-1).toNat) t.1 2 x;have eJ:=aC.cS k (0+(b-1).toNat) t.2 2 x;rw[cV]at dN eJ;refine g.bf (uW s j n e h l d (cX.set (b-1).toNat t.1) (aC.fn k) z u++[.M]) a PN ?_;exact Pt
end
section
variable {q:ag T}
def V'(S)(b)(B:c S.2<=4000000):Y q 154 [fD S,aC.C b] [] (fD (hD S b)) []:=by
 refine Y.bm ba func154 rfl rfl rfl λn=>?_;have i:a9 q [(100,BK)]:=.cons M0 .nil;refine bf i [902] a C (g.cr 2 1 153 2 (bH.fn []) a a ?_);refine b_ i a C ?_;refine g.aE 4 (λe=>e<=c S.2) (λe:Nat=>[(1,aC.C b),(4,aD 1 0),(5,aD 2 0),(12,bH.C S.2),(13,R (c S.2)),(14,R e)])
  (λe=>Ky S ((S.2.take e).filter λd=>b.contains d.1)) (λe=>c S.2-e) 0 a E a E a x ?_
 intro e j;have l:=C0 S.2 (λd=>b.contains d.1) j;by_cases t:e<c S.2
 .have I:S.2.getD e bH.I=ea S e:=rfl;have r:(S.2.take (e+1)).filter (λd=>b.contains d.1)=if b.contains (ea S e).1=m then(S.2.take e).filter (λd=>b.contains d.1)++[ea S e]else(S.2.take e).filter (λd=>b.contains d.1):=C1 t (0,[]);generalize(S.2.take e).filter (λd=>b.contains d.1)=k at *;generalize ea S e=d at *;cases ae:b.contains d.1 with
  |true=>
   rw[br ae]at r;have B:=bH.a0 k d;refine bf i [15,21] a QV (g.ax (e+1) a E ?_ t x);exact OC
  |false=>
   rw[bl ds]at r;refine bf i [15,-21] a P7 (g.ax (e+1) a E ?_ t x);simp_all
 exact PL
abbrev HX(a:dW)(b d:Bool):n an:=
 match b,d with
 |false,_=>[gh a,.cells 30 me]
 |true,v=>[gh a,.cells 30 me,.q 105 2 (c a.1.1) (a2.fn a.1.1),.q 129 2 (c a.1.2.1) (bi.fn a.1.2.1)]
 |true,m=>[gh a,.cells 30 [.S 2 (.C (c a.1.1) 2 0 (c a.1.1)),.S 3 (.C (c a.1.2.1) 2 0 (c a.1.2.1)),cJ a1 a.1.2.2,cJ aC (aC.af (c a.2.1) (aC.fn a.2.1)),cJ aC (aC.af (c a.2.2) (aC.fn a.2.2))],.q 105 2 (c a.1.1) (a2.fn a.1.1),.q 129 2 (c a.1.2.1) (bi.fn a.1.2.1)]
abbrev afl(a:dW)(b:Nat):y:=
 [aD 0 0,bV a.1,.p (.agg [.S 2 (.C (c a.1.1) 2 0 (c a.1.1)),.S 3 (.C (c a.1.2.1) 2 0 (c a.1.2.1)),cJ a1 a.1.2.2]),aD 0 3,aC.C a.2.1,aC.C (aC.af (c a.2.1) (aC.fn a.2.1)),aD 0 4,aC.C a.2.2,aC.C (aC.af (c a.2.2) (aC.fn a.2.2)),
  .p (.agg [.S 2 (.C (c a.1.1) 2 0 (c a.1.1)),.S 3 (.C (c a.1.2.1) 2 0 (c a.1.2.1)),cJ a1 a.1.2.2,cJ aC (aC.af (c a.2.1) (aC.fn a.2.1)),cJ aC (aC.af (c a.2.2) (aC.fn a.2.2))]),.any].getD b .any
def Jt(b)(i:dL b.1)(h:c b.2.1<=4000000)(l:c b.2.2<=4000000):Y q 55 [gn b] [] (.p (.agg [.S 0 (.C (c b.1.1) 2 0 (c b.1.1)),cJ bi b.1.2.1,cJ a1 b.1.2.2,cJ aC b.2.1,cJ aC b.2.2])) [.q 105 2 (c b.1.1) (a2.fn b.1.1)]:=by
 refine Y.bm ba func55 rfl rfl rfl λo=>?_
 have w:a9 q [(66,la [bV b.1] [] (.p (.agg [.S 0 (.C (c b.1.1) 2 0 (c b.1.1)),.S 1 (.C (c b.1.2.1) 2 0 (c b.1.2.1)),.c (.C v 2 (c b.1.2.2) (a1.fn b.1.2.2))])) [.q 105 2 (c b.1.1) (a2.fn b.1.1),.q 129 2 (c b.1.2.1) (bi.fn b.1.2.1)]),
   (57,da (e2 aC) (λd=>aC.C d) λd=>[c d<=4000000])]:=.cons (ma (pq b.1 i.a2 i.bu i.a7 i.bx i.aP)) (.cons (.bd λd k=>Cw d k) .nil)
 refine bf w [901] a C ?_;refine g.cj b5 (afl b) (ns (HX b) 2 10) a a a a
  ⟨.a',.a',b4.fg a a (dS (bg:=[]) ba w (ao:=f _) a E),.a',.a',.cD ba w (ck:=by exact⟨aC.U _,by rw[aC.m];exact h⟩),.a',.a',.cD ba w (ck:=by exact⟨aC.U _,by rw[aC.m];exact l⟩),.a',
   b4.fh a a (dS (bg:=[]) ba w (ao:=f _) a C),C⟩ ?_
 intro y e;show g q _ _ _ _ _ (HX b (y 2) (y 10));rw[e 2 b9,e 10 b9];refine qV w [] 1 a C (g.bC 3 a a a E E (g.bf [gh b,.cells 30 [.S 2 (.C (c b.1.1) 2 0 (c b.1.1)),cJ bi b.1.2.1,cJ a1 b.1.2.2,cJ aC b.2.1,cJ aC b.2.2],.q 105 2 (c b.1.1) (a2.fn b.1.1),.M] a ?_ ?_))
 .simp[aC.m,hA]
 refine g.bh () [2] ?_ (λn j=>absurd j E);simp
abbrev qj(a:n cb):an:=.q 105 2 (c a) (a2.fn a)
abbrev xY(b a:Nat):y:=cz 0 (.C b 2 0 a)
def Vv(d)(z)(D:z<=c d)(J:c d<=4000000)(l)(ai)(i:cb->Bool)(y:∀r,r∈d.take z->Y q l [fD r,aw (.Q ai)] [] (bh (i r)) []):
  Y q 141 [xY (c d) z,aw (.fn (.func l) [] [.Q ai])] [qj d] (R (gH i (d.take z))) [qj d]:=by
 refine Y.K func141 rfl λF=>?_;refine aZ a C ?_;have B:c (d.take z)=z:=bW;have k:∀e,e<z->(d.take z).getD e (0,[])=d.getD e (0,[]):=λe n=>by simp[iq,n]
 refine g.aE 1 (λb=>b<=z/\∀e,e<b->i ((d.take z).getD e (0,[]))=v) (λb:Nat=>[(0,xY (c d) z),(1,aw (.fn (.func l) [] [.Q ai])),(7,R z),(8,R b)]) (λ_=>[qj d]) (λb=>z-b) 0 a E a E a ⟨by omega,by omega⟩ ?_;rintro b ⟨u,j⟩;by_cases h:b<z
 .have A:d.getD b (0,[])∈d.take z:=by rw[<-k b h];grind
  have w:d.getD ((0+(b:Int).toNat:Nat)) a2.I=d.getD b (0,[]):=nX;refine a6 [9] a bw ?_;rw[w];refine g.aC (y _ A) [] a ?_;cases s:i (d.getD b (0,[]))with
  |true=>
   refine a6 [16] a E (g.aX (bX.mk [0] a ?_ a a a h7));simp[tf (o:=d.take z) (I:=(0,[])) x (by rw[k b h];exact s) j]
  |false=>
   refine a6 [-16] a bJ (g.ax (b+1) a E E ⟨h,λe n=>?_⟩ x);by_cases t:e=b
   .rw[t,k b h];exact s
   exact j e x
 refine a6 [-9] a bW (g.aB ?_);refine aZ a C (g.aM [0] a ?_ h7);simp[tg (o:=d.take z) (I:=(0,[])) (λe n=>j e x)]
def oq(a:n cb)(b d:Nat):n cb:=(a.take b).eraseIdx d++(0,[])::a.drop b
def Tv{d}(b:z<=c d)(a:e<z):c (oq d z e)=c d:=by unfold oq;rw[dm,Gm bW];simp;omega
def UO(d)(z e)(O:z<=c d)(y:e<z)(Q:c d<=4000000):
  Y q 155 [xY (c d) z,R e,R ((e:Int)+1)] [qj d] (xY (c d) (z-1)) [.q 105 2 (c d) (a2.fn (oq d z e))]:=by
 refine Y.K func155 rfl λS=>?_;refine bN [-16,906] a Fe ?_;have B:bU z (f (e:Int))-bU 0 p+(bU z p-bU 0 (f ((e:Int)+1)))=z-1:=Fe;rw[B];refine g.region ?_;refine gu [] 4 a C (g.aN (a0.hZ ba a a a a a a a a a x x x) a a ?_);refine g.aN (a0.eY ba a a a a a a x) a a ?_;refine bN [907] a C (g.gO 0 (a2.fn (oq d z e)) a (λ_ _=>rfl) (λN idx o t s M=>?_) ?_)
 .have J:bU z (f (e:Int))-bU 0 p=e:=wQ;have I:bU 0 (f ((e:Int)+1))=e+1:=bJ;have D:bU z p=z:=rfl;simp only[c5];rw[J,I,D];have A:(oq d z e).getD idx (0,[])=if idx<e then d.getD idx (0,[])else if idx<z-1 then d.getD (idx+1) (0,[])else if idx<z then(0,[])else d.getD idx (0,[]):=by
   unfold oq;have w:c ((d.take z).eraseIdx e)=z-1:=NV;simp only[al];by_cases n:idx<z-1
   .rw[kH x,List.getElem?_eraseIdx];by_cases h:idx<e
    .rw[br h,br h,iq,br x]
    rw[bl h,bl h,br n,iq,br x]
   rw[hr x,w];by_cases F:idx=z-1
   .subst F;rw[bl x,bl x,br x];simp
   obtain⟨j,rfl⟩:∃j,idx=z+j:=⟨idx-z,by omega⟩
   rw[bl x,bl x,bl x,show z+j-(z-1)=j+1 by omega];simp
  have b:(a2.a9 ((oq d z e).getD idx (0,[])))[t]?=f s:=M;rw[A]at b;by_cases n:idx=z-1
  .subst n;rw[bl x,bl x,br x]at b;have E:nS (0+(z-1)) (0+(z-1)+(z-(z-1))) nB.zero (qP e (0+(e+1)) (z-(e+1)) (a2.fn d)) (z-1)=nB.zero:=br x;rw[E]
   match t,b with
   |0,b=>exact⟨_,rfl,λK i=>by cases b;exact i⟩
   |1,b=>exact⟨_,rfl,λK i=>by cases b;exact Kv (k:=.C m 0 0 λ_=>[]) rfl ⟨rfl,rfl⟩ i⟩
  refine⟨s,?_,λ_ i=>i⟩;rw[<-b];congr 1;unfold nS qP;rw[bl x];have l:∀u,a2.fn d u=a2.a9 (d.getD u (0,[])):=λ_=>rfl;by_cases h:idx<e
  .rw[bl x,br h,l]
  rw[bl h];by_cases r:idx<z-1
  .rw[br x,br r,l,show 0+(e+1)+(idx-e)=idx+1 by omega]
  rw[bl x,bl r,bl x,l]
 exact P6
end
def ky(a:dW):Nat->dW
 |0=>a
 |b+1=>jx (ky a b)
def MH{J}:∀{u:Nat},u<=c J.2.2->(ky J u).1.2=J.1.2/\(ky J u).2.1=J.2.1/\(ky J u).2.2=J.2.2.drop u/\(ky J u).1.1=(J.2.2.take u).foldl (λd b=>fi b J.2.1 d) J.1.1
 |0,_=>⟨rfl,rfl,rfl,rfl⟩
 |u+1,l=>by
  obtain⟨j,i,k,e⟩:=MH (J:=J) (u:=u) x;have h:J.2.2.drop u=J.2.2.getD u 0::J.2.2.drop (u+1):=by rw[Si x];simp[bG (show u<c J.2.2 by omega)]
  have g:ky J (u+1)=((fi (J.2.2.getD u 0) J.2.1 (ky J u).1.1,(ky J u).1.2),(ky J u).2.1,J.2.2.drop (u+1)):=by rw[show ky J (u+1)=jx (ky J u)from a];unfold jx;simp_all
  rw[g,ig x 0,uG,<-e];simp_all
def n8.h0{h}{d}(b:n8 h d):∀a,n8 h (ky d a)
 |0=>b
 |a+1=>(n8.h0 b a).step
def LN{ct}{bS}:∀{ab:n cb}{e:Nat},(ab.Pairwise λa b=>a.1<b.1)->(∀a∈ab,a.2≠[])->e<c ab->(ab.getD e (0,[])).1=bS ->
  gH (λa:cb=>a.1==bS) ab=e/\fi bS ct ab=if(hD (ab.getD e (0,[])) ct).2.length=0 then ab.eraseIdx e else ab.set e (hD (ab.getD e (0,[])) ct)
 |a::ab,0,i,h,_,d=>by
  obtain⟨k,q⟩:=iG.1 i;simp only[List.getD_cons_zero]at d⊢;have j:ab.map (iU bS ct)=ab:=by rw[w7 (g:=id) λb g=>by have:=k b g;exact bl x,List.map_id]
  refine⟨by simp[gH,List.findIdx?_cons,d],?_⟩;unfold fi;rw[mr,j,show iU bS ct a=hD a ct from br d,sG,sx.2 λb g=>by simpa using h b (nf _ g)];split<;>split<;>simp_all
 |a::ab,e+1,i,h,l,d=>by
  obtain⟨k,q⟩:=iG.1 i;simp only[List.getD_cons_succ,fp]at d l⊢;obtain⟨k1,t⟩:=LN (ct:=ct) (e:=e) q (λb g=>h b (nf _ g)) x d;have s:ab.getD e (0,[])∈ab:=N;have r:a.1≠bS:=by have:=k _ s;omega
  have w:=h a jf;refine⟨?_,?_⟩
  .unfold gH at k1⊢;rw[List.findIdx?_cons];have:(a.1==bS)=v:=bw;rw[this];cases o:ab.findIdx? λa=>a.1==bS with
   |none=>rw[o]at k1;exact bJ
   |some u=>rw[o]at k1;exact bw
  have j:fi bS ct (a::ab)=a::fi bS ct ab:=by unfold fi;rw[mr,show iU bS ct a=a from bl r,sG,br bw]
  rw[j,t];split<;>simp
def kt(a:n Int)(d:n cb)(e b:Nat):n cb×Nat:=
 if(hD (d.getD b (0,[])) a).2.length=0 then(oq d e b,e-1)else(d.set b (hD (d.getD b (0,[])) a),e)
def ab3{ct}{bS}{d}(j:z<=c d)(a:e<z)(i:(d.take z).Pairwise λb o=>b.1<o.1)(l:∀b∈d.take z,b.2≠[])(n:(d.getD e (0,[])).1=bS):
  gH (λb:cb=>b.1==bS) (d.take z)=e/\(kt ct d z e).1.length=c d/\(kt ct d z e).2<=z/\(kt ct d z e).1.take (kt ct d z e).2=fi bS ct (d.take z):=by
 have h:(d.take z).getD e (0,[])=d.getD e (0,[]):=by simp[iq,a]
 obtain⟨k1,g⟩:=LN (ct:=ct) (bS:=bS) (ab:=d.take z) (e:=e) i l ds (h▸n);rw[h]at g;rw[g];unfold kt;split
 .refine⟨k1,Tv j a,by omega,?_⟩;unfold oq;have k:c ((d.take z).eraseIdx e)=z-1:=NV;simp only;exact List.take_left' k
 exact⟨k1,by simp,bE _,by rw[AZ]⟩
section
variable {q:ag T}
def VP(b)(j):Y q 153 [fD b,aw (.Q [.int .i64 j])] [] (bh (b.1==j)) []:=by refine Y.K func153 rfl λd=>?_;exact aZ a C (g.ar a)
abbrev lU(b:n cb)(a:Nat):cb:=b.getD (0+(a:Int).toNat) a2.I
abbrev LM(d:n cb)(b:Nat)(a:n Int):an:=.cells 105 [.c (.int .i64 (lU d b).1),.c (lw (hD (lU d b) a))]
end
structure wW(J:dW)(KU u:Nat)(d:n cb)(z:Nat):Prop where
 fI:u<=c J.2.2
 len:c d=KU
 gp:z<=KU
 c1:d.take z=(ky J u).1.1
 ca:∀S∈d,c S.2<=4000000
def wW.next{J}{t}{d}(D:n8 h J)(e:wW J t u d z)(w:u<c J.2.2):
  ∃g,g<z/\gH (λi:cb=>i.1==J.2.2.getD u 0) (d.take z)=g/\wW J t (u+1) (kt J.2.1 d z g).1 (kt J.2.1 d z g).2:=by
 have j:=D.h0 u;obtain⟨B,k,s,I⟩:=MH (J:=J) (u:=u) e.fI;have q:J.2.2.drop u=J.2.2.getD u 0::J.2.2.drop (u+1):=ds;obtain⟨i,b,r⟩:=j.hr (J.2.2.getD u 0) (by rw[s,q];simp);rw[<-e.c1]at b;obtain⟨g,l,A⟩:=hq b;rw[List.length_take]at l;have o:g<z:=x;have E:(d.getD g (0,[])).1=J.2.2.getD u 0:=by rw[<-r,<-A];simp[bG (show g<c d by omega)]
 have y:∀i∈d.take z,i.2≠[]:=λi b=>by rw[e.c1]at b;have:=(j.c7 i b).len.1;grind
 obtain⟨k1,bb,C,F⟩:=ab3 (ct:=J.2.1) (by rw[e.len];exact e.gp) o (by rw[e.c1];exact j.dM) y E;refine⟨g,o,k1,w,by rw[bb,e.len],fM C e.gp,?_,λi b=>?_⟩
 .rw[F,e.c1];rw[show ky J (u+1)=jx (ky J u)from a];unfold jx;rw[s,q,k]
 unfold kt at b;split at b
 .unfold oq at b;simp only[gl,fr]at b;rcases b with b|b|b
  .exact e.ca i (hh (List.mem_of_mem_eraseIdx b))
  .exact bJ
  exact e.ca i (sz b)
 rcases AP b with b|b
 .exact e.ca i b
 rw[b];have n:d.getD g (0,[])∈d:=N;exact fM (kI _ _) (e.ca _ n)
end R1
end Go.AM
