/- Part 5. No condition. -/
import Derived.Test.YtnaddfhedinfmaaGreatDoorA4
set_option linter.all false
set_option maxHeartbeats 8000000
open Go.Proofs
open Go.Proofs.Tryz
open List renaming length → c, range → aD, getD_eq_getElem?_getD → al
open Go renaming Value → Z, TypeId → av, World → au, Frame → aK, execOp → ac, Operand → aA, Program → aI, Goroutine → ak, Oper → ap
open Option renaming some → h, none → q
open Bool renaming true → f, false → m
open Nat renaming beq → af, ble → ay
open Go.Op renaming bytesLess → aW
open Go.Proofs.Tryz renaming prog → V
namespace Go.AM
variable {k A:Nat}{i:Int}{d j e w:Nat}{W:av}{H:Z->(Nat->Option Obj)->Prop}{L:Array Bool}{bB:Mem}{D:Nat}{P:aI}{bq:ak->a5->Prop}{s:Code}{C:ak}{t:ap}{b:a5}{o:av}{aa:Z}{l X:aA}{α:Type}{η:aA->z}{ι:Type}{n:p an}{F:bH}{all:p ap}{dn:Array av}{cap:p N}{cR:p z}{k6:Nat->Option Obj}{ah:p aK}{bg:p (Nat×Bool)}{T:Nat->p N}{cP:aA}{gs:Array ak}{aO:p Nat}{cf:p Prop}{off:Nat}{op:BinOp}{aC:Array ap}{ab:p Prop}{br:p ap}{az:a5}{ty:av}{val:Nat->Nat->Z}{B:p Z}{bh:au}{ag:Array aA}{ao dd:p an}{res:ι->z}{aL:ι->p an}
variable {CT:p (Nat×bK)}{ar:p ig}{be:fq}{ad:p (Nat×bv)}{a4:bv}
namespace R1
abbrev Ak(d:p c'):Prop:=d.Pairwise λa b=>aW a.1 b.1=f
def aem{o}(g:dR o=f):Ak o:=by simp only[dR,cF]at g;have j:=fY.1 g.1;rw[Ak,oZ];intro e l b d a;rw[o9 b,o9 d];refine Lx (o:=o) (e:=l) (λn k i=>?_) e a;have:=j n y;simp[iR,cF,jz,hd]at this;grind
def Es{o}:dR o=f↔(∀d∈o,fK d.1=f/\fC d.2=f)/\Ak o/\o.Pairwise (λk l=>k7 k.1 l.1=m)/\c o<=6:=by
 constructor
 .intro b;have u:=aem b;simp only[dR,cF,bA]at b;have i:=fY.1 b.1;refine⟨λd p=>?_,u,?_,b.2⟩
  .obtain⟨e,a,rfl⟩:=hD p;have:=i e a;exact O4
  rw[oZ];intro e s a g j;have:=i s g;exact O4
 rintro⟨t,v,w,r⟩;simp only[dR,cF,bA];refine⟨fY.2 λe a=>?_,r⟩;have n:=t _ (wR a);rw[o9 a]at n;simp only[iR,cF,jz,hd];grind[List.pairwise_iff_getElem,o9]
end R1
def bk.le{t:ai P}{u}{args}{oB:ι->z}(v:bk t u args n res aL){e:ι->p Prop}(x:∀a,kk (res a) (oB a)=h (e a))(y:∀a,U (e a)):bk t u args n oB aL:=
 ⟨v.1,λA B o k w g j=>v.2 A B o k w g λa i C r l b d s=>j a i C r l (pg (x a) (y a) b) d s⟩
def bk.aq{p:ai P}{r}{args}{res}{aL}(s:bk (ι:=ι) p r args n (λ_=>res) (λ_=>aL)):Y p r args n res aL:=
 ⟨s.1,λu B k i t d g=>s.2 u B k i t d λ_ e v l j a b o=>g e v l j a b o⟩
namespace R1
variable {r:ai V}
abbrev ue(e:cY α)(d:p α):Type:={a:Nat->p N // ∀b,b<c d->a b=e.fn d b}
structure dN(b:cz):Prop where
 a2:c b.1<=4000000
 bs:∀a2∈b.1,c a2.2<=4000000
 a7:c b.2.1<=4000000
 bz:ln b
 aM:c b.2.2<=4000000
def Vw(b)(d)(i:dN b)(n:d.1=1):
  bk (ι:={e:Nat->p N // ∀k,k<c (b.1.filter λj=>!(j.1==d.2.1))->e k=a1.fn (b.1.filter λj=>!(j.1==d.2.1)) k}) r 77 [b9 b,eB d] []
   (λ_=>.q (.agg [dC 0 (c b.1) (c (b.1.filter λj=>!(j.1==d.2.1))),dC 1 (c b.2.1) (c b.2.1),.c (hQ b.2.2)])) (λe=>[.h 91 2 (c b.1) e.1,.h 106 2 (c b.2.1) (bj.fn b.2.1)]):=by refine bk.bE bd func77 rfl rfl rfl λo=>?_;refine aZ a v (g.aF (o8 b i.a2 i.bs i.a7 i.bz i.aM) [] a (aZ a v (g.aF (T4 d n) [] a (aZ a v (g.cJ (T' b d i.a2) a a a a E a ?_)))));rintro⟨e,l⟩;refine aZ a v (g.bd ⟨e,l⟩ [3,4] ?_ fI);simp
def Vv(b)(d)(l:dN b)(o:d.1=1):Y r 77 [b9 b,eB d] [] (b9 (b.1.filter λa=>!(a.1==d.2.1),b.2.1,b.2.2)) []:=by
 have n:c (b.1.filter λa=>!(a.1==d.2.1))<=c b.1:=kz _ _;have e:=Vw (r:=r) b d l o;have g:=bk.bO (aL:=λT:ue a1 (b.1.filter λa=>!(a.1==d.2.1))=>[.h 91 2 (c b.1) T.1]) (W:=106) (i:=2) (k:=λ_=>c b.2.1) (T:=λ_=>bj.fn b.2.1) e bl (λ_=>?_) bl (λ_=>gX _);have j:=bk.bO (aL:=λ_=>[]) (W:=91) (i:=2) (k:=λ_=>c b.1) (T:=λT:ue a1 (b.1.filter λa=>!(a.1==d.2.1))=>T.1) g bl (λ_=>?_) bl (λ_=>bC _);refine(j.le (oB:=λ_=>b9 (b.1.filter λa=>!(a.1==d.2.1),b.2.1,b.2.2)) bl (λT=>?_)).aq
 .simp only[U.Y,U,a9,ba];exact⟨T.2,bt.same,bt.same⟩
 .simpa using n
 simp
def VG(b)(d)(e:dN b)(k:d.1≠1)(i:d.1≠2)(l:d.1≠3)(j:d.1≠4):
  bk (ι:=Unit) r 77 [b9 b,eB d] [] (λ_=>.q (.agg [dC 0 (c b.1) (c b.1),dC 1 (c b.2.1) (c b.2.1),.c (hQ b.2.2)])) (λ_=>[.h 91 2 (c b.1) (a1.fn b.1),.h 106 2 (c b.2.1) (bj.fn b.2.1)]):=by refine bk.bE bd func77 rfl rfl rfl λn=>?_;refine aZ a v (g.aF (o8 b e.a2 e.bs e.a7 e.bz e.aM) [] a (aZ a v (g.aF (T6 d k i l j) [] a (aZ a v (g.cJ (V8 (mM b d) a (.ptr 5 0)).tocD a a a a E a ?_)))));intro _;refine aZ a v (g.bd () [3,4] ?_ fI);simp
def Vz(b)(d:dV)(e:dN b)(i:d.1=2)(j:d.2.1<0∨d.2.1>c b.2.2):
  bk (ι:=Unit) r 77 [b9 b,eB d] [] (λ_=>.q (.agg [dC 0 (c b.1) (c b.1),dC 1 (c b.2.1) (c b.2.1),.c (hQ b.2.2)])) (λ_=>[.h 91 2 (c b.1) (a1.fn b.1),.h 106 2 (c b.2.1) (bj.fn b.2.1)]):=by refine bk.bE bd func77 rfl rfl rfl λk=>?_;refine aZ a v (g.aF (o8 b e.a2 e.bs e.a7 e.bz e.aM) [] a (aZ a v (g.aF (Ip d i) [] a (aZ a v (g.cJ (Tr b d j).tocD a a a a E a ?_)))));intro _;refine aZ a v (g.bd () [3,4] ?_ fI);simp
def Ck{b}{d}(a:bk (ι:=Unit) r 77 [b9 b,eB d] [] (λ_=>.q (.agg [dC 0 (c b.1) (c b.1),dC 1 (c b.2.1) (c b.2.1),.c (hQ b.2.2)])) (λ_=>[.h 91 2 (c b.1) (a1.fn b.1),.h 106 2 (c b.2.1) (bj.fn b.2.1)])):Y r 77 [b9 b,eB d] [] (b9 b) []:=by
 have e:=bk.bO (aL:=λ_:Unit=>[.h 91 2 (c b.1) (a1.fn b.1)]) (W:=106) (i:=2) (k:=λ_=>c b.2.1) (T:=λ_=>bj.fn b.2.1) a bl (λ_=>?_) bl (λ_=>gX _);have g:=bk.bO (aL:=λ_:Unit=>[]) (W:=91) (i:=2) (k:=λ_=>c b.1) (T:=λ_=>a1.fn b.1) e bl (λ_=>?_) bl (λ_=>bC _);refine(g.le (oB:=λ_=>b9 b) bl (λT=>?_)).aq
 .simp only[U.Y,U,a9,ba];exact⟨bt.same,bt.same,bt.same⟩
 .simp
 simp
def Vy(b)(i:dV)(d:dN b)(n:i.1=2)(j:Nat)(o:i.2.1=j)(p:j<=c b.2.2):
  bk (ι:=ue bj (b.2.1.filter λk=>!jm j b.2.2 k)) r 77 [b9 b,eB i] []
   (λ_=>.q (.agg [dC 0 (c b.1) (c b.1),dC 1 (c b.2.1) (c (b.2.1.filter λk=>!jm j b.2.2 k)),.c (.S m 2 i.2.1.toNat (a2.fn b.2.2))])) (λe=>[.h 91 2 (c b.1) (a1.fn b.1),.h 106 2 (c b.2.1) e.1]):=by refine bk.bE bd func77 rfl rfl rfl λs=>?_;refine aZ a v (g.aF (o8 b d.a2 d.bs d.a7 d.bz d.aM) [] a (aZ a v (g.aF (Ip i n) [] a (aZ a v (g.cJ (Ts b i j o p d.a7 d.aM) a a a a E a ?_)))));rintro⟨e,l⟩;refine aZ a v (g.bd ⟨e,l⟩ [3,4] ?_ fI);simp
def Vx(b)(d:dV)(v:dN b)(p:d.1=2)(k:Nat)(w:d.2.1=k)(s:k<=c b.2.2):Y r 77 [b9 b,eB d] [] (b9 (b.1,b.2.1.filter λa=>!jm k b.2.2 a,b.2.2.take k)) []:=by
 have n:c (b.2.1.filter λa=>!jm k b.2.2 a)<=c b.2.1:=kz _ _;have e:=Vy (r:=r) b d v p k w s;have g:=bk.bO (aL:=λ_:ue bj (b.2.1.filter λa=>!jm k b.2.2 a)=>[.h 91 2 (c b.1) (a1.fn b.1)]) (W:=106) (i:=2) (k:=λ_=>c b.2.1) (T:=λT=>T.1) e bl (λ_=>?_) bl (λ_=>gX _);have j:=bk.bO (aL:=λ_:ue bj (b.2.1.filter λa=>!jm k b.2.2 a)=>[]) (W:=91) (i:=2) (k:=λ_=>c b.1) (T:=λ_=>a1.fn b.1) g bl (λ_=>?_) bl (λ_=>bC _);refine(j.le (oB:=λ_=>b9 (b.1,b.2.1.filter λa=>!jm k b.2.2 a,b.2.2.take k)) bl (λT=>?_)).aq
 .have o:d.2.1.toNat=c (b.2.2.take k):=M;simp only[U.Y,U,a9,ba];refine⟨bt.same,T.2,o,λu t=>?_⟩;have l:u<k:=M;simp[cY.fn,gr,al,ik,l]
 .simp
 simpa using n
end R1
def dG.b8:dG->Nat
 |.nil=>0
 |.ax a _ _ b=>a.b8+b.b8+1
namespace R1
variable {r:ai V}
def Uh(o)(k):Y r 198 [ax (eG o),S k] [] (S (o.find k)) []:=by
 refine Y.K func198 rfl λt=>?_;refine aZ a v (g.loop (λd:dG=>d.find k=o.find k) (λd=>[(0,ax (eG d)),(1,S k)]) (λ_=>[]) (λd=>d.b8) o a (.cons a (eC a E)) a ?_);intro d b;cases d with
 |nil=>
  refine aZ a v (g.aP (rM a underlying244 a a a) a a ?_);refine a6 [(7,m),(15,m)] a E (g.bt a a ?_);refine aZ a v (g.aP (rM a underlying244 a a a) a a ?_);refine aZ a v (g.aw a ?_);exact bJ
 |ax i e l j=>
  have s:(dG.ax i e l j).find k=if k=e then l else if k<e then i.find k else j.find k:=rfl;rw[s]at b;refine aZ a v (g.aP (tt a underlying244 a a a) a a ?_);by_cases p:k=e
  .subst p;rw[bs a]at b;refine a6 [(7,f),(15,m)] a E (g.bt a a ?_);refine aZ a v (g.aP (tt a underlying244 a a a) a a ?_);refine aZ a v (g.aw a ?_);exact bw
  rw[bm p]at b;by_cases n:k<e
  .rw[bs n]at b;cases i<;>exact a6 [(7,f),(15,f),(22,f)] rfl bw ⟨_,b,by simp only[dG.b8];omega,.cons rfl (eC rfl E),rfl⟩
  rw[bm n]at b;cases j<;>exact a6 [(7,f),(15,f),(22,m)] rfl bw ⟨_,b,by simp only[dG.b8];omega,.cons rfl (eC rfl E),rfl⟩
end R1
namespace R1
section
variable {r:ai V}
def Ix(b)(d)(e:dN b)(k:d.1=4)(i:Nat->p N)(j:Y r 157 [aG 6 0,iH (lY d)] (oE b d (a2.fn b.2.2)) (.Q []) (oE b d i)):
  bk (ι:=Unit) r 77 [b9 b,eB d] [] (λ_=>.q (.agg [dC 0 (c b.1) (c b.1),dC 1 (c b.2.1) (c b.2.1),dC 2 (c b.2.2) (c b.2.2)])) (λ_=>[.h 91 2 (c b.1) (a1.fn b.1),.h 106 2 (c b.2.1) (bj.fn b.2.1),.h 140 2 (c b.2.2) i]):=by refine bk.bE bd func77 rfl rfl rfl λl=>?_;refine aZ a v (g.aF (IS b e.a2 e.bs e.a7 e.bz e.aM) [] a (aZ a v (g.aF (T5 d k) [] a (aZ a v (g.cJ j.tocD a a a a E a ?_)))));intro _;refine aZ a v (g.bd () [3,4,5] ?_ fI);simp
def Iy(b)(d)(T:Nat->p N)(e)(g:c e=c b.2.2)(o:bt (c b.2.2) T (a2.fn e))(j:bk (ι:=Unit) r 77 [b9 b,eB d] [] (λ_=>.q (.agg [dC 0 (c b.1) (c b.1),dC 1 (c b.2.1) (c b.2.1),dC 2 (c b.2.2) (c b.2.2)])) (λ_=>[.h 91 2 (c b.1) (a1.fn b.1),.h 106 2 (c b.2.1) (bj.fn b.2.1),.h 140 2 (c b.2.2) T])):
  Y r 77 [b9 b,eB d] [] (b9 (b.1,b.2.1,e)) []:=by
 have s:=bk.bO (aL:=λ_:Unit=>[.h 91 2 (c b.1) (a1.fn b.1),.h 106 2 (c b.2.1) (bj.fn b.2.1)]) (W:=140) (i:=2) (k:=λ_=>c b.2.2) (T:=λ_=>T) j bl (λ_=>?_) bl (λ_=>gX _);have l:=bk.bO (aL:=λ_:Unit=>[.h 91 2 (c b.1) (a1.fn b.1)]) (W:=106) (i:=2) (k:=λ_=>c b.2.1) (T:=λ_=>bj.fn b.2.1) s bl (λ_=>?_) bl (λ_=>gX _);have n:=bk.bO (aL:=λ_:Unit=>[]) (W:=91) (i:=2) (k:=λ_=>c b.1) (T:=λ_=>a1.fn b.1) l bl (λ_=>?_) bl (λ_=>bC _);refine(n.le (oB:=λ_=>b9 (b.1,b.2.1,e)) bl (λ_=>?_)).aq
 .simp only[U.Y,U,a9,ba];refine⟨bt.same,bt.same,g.symm,?_⟩;intro t a;exact o t (by first|exact a|(rw[<-g];exact a))
 .simp
 .simp
 simp
def VF(b)(a:dV)(d:dN b)(j:a.1=4)(e:0<=a.2.1)(g:a.2.1<c b.2.2)(i:a7 .i64 (3-lq b a)):
  Y r 77 [b9 b,eB a] [] (b9 (b.1,b.2.1,b.2.2.set (0+a.2.1.toNat) (3-lq b a,(b.2.2.getD (0+a.2.1.toNat) a2.I).2))) []:=
 Iy b a _ _ E (a2.cT b.2.2 (0+a.2.1.toNat) (3-lq b a,(b.2.2.getD (0+a.2.1.toNat) a2.I).2) (c b.2.2) (bC _)) (Ix b a d j _ (Uk b a e g i))
def VE(b)(d:dV)(e:dN b)(i:d.1=4)(g:¬(0<=d.2.1/\d.2.1<c b.2.2)):Y r 77 [b9 b,eB d] [] (b9 b) []:=
 Iy b d _ b.2.2 a bt.same (Ix b d e i _ (Uj b d g))
abbrev DU(a:cz)(j:dV)(e:Nat)(g b d:Nat)(i:p Z):p an:=tx a j [.h 91 2 (c a.1) (ga a.1 e (.slice (h ⟨g,0,q⟩) d b)),.h 106 2 (c a.2.1) (bj.fn a.2.1),.J (ck 131 2 (.row g b) d i)] (dC 3 (c a.1) (c a.1)) (dC 4 (c a.2.1) (c a.2.1)) (.c (hQ a.2.2))
def gH(a:p cW)(b:Nat)(d:bE):p cW:=a.set b ((a.getD b (0,[])).1,d)
def Jb{ag}{o}{d}(l:eg 2 (c ag) (bG.fn ag) d)(e:A<c ag)(k:m3 B [.c (.V o)]):eg 2 (c ag) (bG.fn (gH ag A o)) (d.take (A*2+1)++B++d.drop (A*2+1+c B)):=by
 refine eg.ff l A 1 e k E (λr p i=>?_) a λg n b=>?_
 .simp[cY.fn,gr,gH,al,re,p3 i]
 have j:bG.fn (gH ag A o) A=[.int .i64 (ag.getD A (0,[])).1,.V o]:=by simp[cY.fn,gr,gH,al,re,e];rfl
 rw[j]at b;rcases g with _|_|g
 .simp at b;subst b;exact .inr ⟨by omega,a⟩
 .grind
 simp at b
def Tw(b)(j:dV)(V:c b.1<=4000000)(d s e n:Nat)(ag)(O:(b.1.getD d (0,[])).2=ag)(T:d<c b.1)(K:(b.1.getD d (0,[])).1=j.2.1)(M:∀x,x<c b.1->x≠d->(b.1.getD x (0,[])).1≠j.2.1)(N:j.2.2.1=n)(R:n<c ag)(W:c ag<=4000000)(C)(J:eg 2 (c ag) (bG.fn ag) C):
  bk (ι:={z:p Z // eg 2 (c ag) (bG.fn (gH ag n j.2.2.2)) z}) r 156 [aG 6 0,iH (lY j)] (DU b j d s e (c ag) C) (λ_=>.Q []) (λz=>DU b j d s e (c ag) z.1):=by
 refine bk.bR func156 rfl rfl rfl (g.aW ?_);refine aZ a v (g.aN 7 (λk:Nat×p Z=>k.1<=c b.1/\(k.1<=d->k.2=C)/\(d<k.1->eg 2 (c ag) (bG.fn (gH ag n j.2.2.2)) k.2)) (λk=>[(0,aG 6 0),(1,iH (lY j)),(8,.q (.aq (dC 3 (c b.1) (c b.1)))),(9,S (c b.1)),(10,S k.1)]) (λk=>DU b j d s e (c ag) k.2) (λk=>c b.1-k.1) (0,C) a E a E a ⟨by omega,λ_=>rfl,λF=>by omega⟩ ?_);rintro⟨i,l⟩ ⟨u,D,A⟩;simp only at u D A;have I:0+(i:Int).toNat=i:=y;by_cases F:i<c b.1
 .by_cases o:i=d
  .subst o;obtain rfl:=D (bC _);refine gI [(11,f)] 12 a N6 (g.aP (a0.e6 bd (aj:=.agg [.c (.int .i64 j.2.1),.c (.val (.slice (h ⟨s,0,q⟩) (c ag) e))]) a a a a a ?_ ?_) a a ?_)
   .show h (E1.agg [.c (.int .i64 (b.1.getD (0+(i:Int).toNat) (0,[])).1),.c (nq b.1 i (.slice (h ⟨s,0,q⟩) (c ag) e) (0+(i:Int).toNat))])=_;rw[I,K,nq,bs a]
   .show 0+(i:Int).toNat<_;omega
   refine a6 [(19,f),(24,f),(31,f)] a ?_ ?_
   .simp only[U,a7,bA,fX,ba,a9];exact fp
   have Y:=J.len;have w:0+j.2.2.1.toNat*2+1=n*2+1:=y;refine g.eL bd 5 a a a a a a a ?_ a a λB t=>?_
   .show 0+j.2.2.1.toNat*2+1+1<=c l;omega
   have X:=Jb J R t;refine aZ a Fs (g.aB (i+1,l.take (n*2+1)++B++l.drop (n*2+1+c B)) a E ?_ ?_ ?_)
   .simp only[U.Y,U,bt.same,a9,ba];show ck 131 2 _ _ (List.take (0+j.2.2.1.toNat*2+1) l++B++List.drop (0+j.2.2.1.toNat*2+1+c B) l)=_;rw[w]
   .grind
   grind
  have Q:=M i F o;refine gI [(11,f)] 12 a N6 (g.aP (a0.e6 bd (aj:=.agg [.c (.int .i64 (b.1.getD i (0,[])).1),.c (.S m 2 (b.1.getD i (0,[])).2.length (bG.fn (b.1.getD i (0,[])).2))]) a a a a a ?_ ?_) a a ?_)
  .show h (E1.agg [.c (.int .i64 (b.1.getD (0+(i:Int).toNat) (0,[])).1),.c (nq b.1 d (.slice (h ⟨s,0,q⟩) (c ag) e) (0+(i:Int).toNat))])=_;rw[I,nq,bm o]
  .show 0+(i:Int).toNat<_;omega
  refine a6 [(19,m),(24,m),(31,m)] a ?_ (g.aB (i+1,l) a ?_ ?_ ?_ ?_)
  .simp only[U,a7,eU,ba,a9];exact⟨by omega,Q⟩
  .simp
  .simp
  .grind
  grind
 obtain rfl:i=c b.1:=y;refine a6 [(11,m)] a E (g.aD ?_);exact aZ a v ⟨⟨l,A T⟩,.inr a,a,a,_,_,_,a,a,a,v⟩
structure sb(b:cz)(d:dV)(i0 A:Nat):Prop where
 a':i0<c b.1
 db:(b.1.getD i0 (0,[])).1=d.2.1
 b2:∀w,w<c b.1->w≠i0->(b.1.getD w (0,[])).1≠d.2.1
 b4:d.2.2.1=A
 gr:A<(b.1.getD i0 (0,[])).2.length
def Lh(ag)(A)(o):c (gH ag A o)=c ag:=by simp[gH]
def u6{a:cz}{i0}(b:i0<c a.1):a.1.getD i0 (0,[])∈a.1:=M
set_option maxRecDepth 20000 in
def VB(b)(d)(j:dN b)(t:d.1=3)(i0 A)(i:sb b d i0 A):
  bk (ι:={k:fg×p Z // eg 2 (b.1.getD i0 (0,[])).2.length (bG.fn (gH (b.1.getD i0 (0,[])).2 A d.2.2.2)) k.2}) r 77 [b9 b,eB d] []
   (λ_=>.q (.agg [dC 0 (c b.1) (c b.1),dC 1 (c b.2.1) (c b.2.1),.c (hQ b.2.2)]))
   (λk=>[.h 91 2 (c b.1) (ga b.1 i0 (cX k.1.1 (b.1.getD i0 (0,[])).2.length)),.h 106 2 (c b.2.1) (bj.fn b.2.1),.J (ck 131 2 k.1.1 (b.1.getD i0 (0,[])).2.length k.1.2)]):=by have u:=i.gr;have s:=j.bs _ (u6 i.a');refine bk.bE bd func77 rfl rfl rfl λC=>?_;refine aZ a v (g.a9 (W_ b i0 i.a' y j.a2 j.bs j.a7 j.bz j.aM) [] a bl ?_);rintro⟨⟨n,x⟩,B⟩;refine g.fz (ck.len (d:=5) a) λo=>?_;obtain⟨l,e,rfl⟩:=o.2.2.1 y;refine aZ a v (g.aF (Iq d t) [] a (aZ a v (g.cJ (Tw b d j.a2 i0 l e A _ a i.a' i.db i.b2 i.b4 u s x B) a a a a E a ?_)));rintro⟨z,w⟩;refine aZ a v (g.bd ⟨(.row l e,z),w⟩ [3,4,5] ?_ fI);simp
abbrev gY(b:cz)(d:dV)(a e:Nat):cz:=(b.1.set a ((b.1.getD a (0,[])).1,gH (b.1.getD a (0,[])).2 e d.2.2.2),b.2.1,b.2.2)
def TP{o}{args}(b)(d)(i0 A)(x:i0<c b.1)(t:bk (ι:={g:fg×p Z // eg 2 (b.1.getD i0 (0,[])).2.length (bG.fn (gH (b.1.getD i0 (0,[])).2 A d.2.2.2)) g.2}) r o args []
   (λ_=>.q (.agg [dC 0 (c b.1) (c b.1),dC 1 (c b.2.1) (c b.2.1),.c (hQ b.2.2)]))
   (λg=>[.h 91 2 (c b.1) (ga b.1 i0 (cX g.1.1 (b.1.getD i0 (0,[])).2.length)),.h 106 2 (c b.2.1) (bj.fn b.2.1),.J (ck 131 2 g.1.1 (b.1.getD i0 (0,[])).2.length g.1.2)])):
  Y r o args [] (b9 (gY b d i0 A)) []:=by
 generalize e:b.1.getD i0 (0,[])=j at *;have z:∀l,l≠i0->a1.fn (gY b d i0 A).1 l=a1.fn b.1 l:=λl n=>by simp[cY.fn,gr,al,re,p3 n]
 have C:a1.fn (gY b d i0 A).1 i0=[.int .i64 j.1,.S m 2 (c j.2) (bG.fn (gH j.2 A d.2.2.2))]:=by have:(gY b d i0 A).1.getD i0 a1.I=(j.1,gH j.2 A d.2.2.2):=M;show a1.a8 ((gY b d i0 A).1.getD i0 a1.I)=_;rw[this];show[N.int .i64 j.1,N.S m 2 (c (gH j.2 A d.2.2.2)) (bG.fn (gH j.2 A d.2.2.2))]=_;rw[Lh]
 have y:=bk.fx (aL:=λg:{g:fg×p Z // eg 2 (c j.2) (bG.fn (gH j.2 A d.2.2.2)) g.2}=>[.h 91 2 (c b.1) (ga b.1 i0 (cX g.1.1 (c j.2))),.h 106 2 (c b.2.1) (bj.fn b.2.1)]) (e8:=λ_=>[.h 91 2 (c b.1) (a1.fn (gY b d i0 A).1),.h 106 2 (c b.2.1) (bj.fn b.2.1)]) (W:=131) (i:=2) (k:=c j.2) (bN:=λg=>g.1.1) (ag:=λg=>g.1.2) t (λg=>g.2) 0 bl bl bl bl (λ_=>gX _)
  (λg l n=>by exact bJ)
  (λg l n s B I=>by
   by_cases u:l=i0
   .subst u;rw[C]at I;have:ga b.1 l (cX g.1.1 (c j.2)) l=[.int .i64 j.1,.val (cX g.1.1 (c j.2))]:=Ny;rw[this];rcases s with _|_|s
    .simp at I;subst I;exact⟨_,a,.inl a⟩
    .exact QP
    exact bJ
   .rw[z l u]at I;have:ga b.1 i0 (cX g.1.1 (c j.2)) l=a1.fn b.1 l:=EI
    rw[this];exact⟨B,I,.inl a⟩)
 have v:=bk.bO (aL:=λ_=>[.h 91 2 (c b.1) (a1.fn (gY b d i0 A).1)]) (W:=106) (i:=2) (k:=λ_=>c b.2.1) (T:=λ_=>bj.fn b.2.1) y bl (λ_=>?_) bl (λ_=>gX _);have w:=bk.bO (aL:=λ_=>[]) (W:=91) (i:=2) (k:=λ_=>c b.1) (T:=λ_=>a1.fn (gY b d i0 A).1) v bl (λ_=>?_) bl (λ_=>bC _);refine(w.le (oB:=λ_=>b9 (gY b d i0 A)) bl (λ_=>?_)).aq
 .exact OY
 .simp
 simp
set_option maxRecDepth 20000 in
def VA(b)(d)(e:dN b)(g:d.1=3)(i0 A)(a:sb b d i0 A):Y r 77 [b9 b,eB d] [] (b9 (gY b d i0 A)) []:=
 TP b d i0 A a.a' (VB b d e g i0 A a)
def pO(d:cz)(b:dV):Prop:=∀a,a<c d.1->¬((d.1.getD a (0,[])).1=b.2.1/\0<=b.2.2.1/\b.2.2.1<(d.1.getD a (0,[])).2.length)
def Tx(b)(d)(k:dN b)(t:pO b d):Y r 156 [aG 5 0,iH (lY d)] (mM b d) (.Q []) (mM b d):=by
 have z:=k.a2;refine bk.toY (bk.bR (ι:=Unit) (res:=λ_=>.Q []) (ao:=λ_=>mM b d) func156 rfl rfl rfl (g.aW ?_));refine aZ a v (g.aN 6 (λe=>e<=c b.1) (λe:Nat=>[(0,aG 5 0),(1,iH (lY d)),(8,.q (.aq (dC 3 (c b.1) (c b.1)))),(9,S (c b.1)),(10,S e)]) (λ_=>mM b d) (λe=>c b.1-e) 0 a E a E a y ?_);intro e o;by_cases l:e<c b.1
 .have s:=t e l;have u:=k.bs _ (u6 l);have p:0+(e:Int).toNat=e:=y;have j:b.1.getD (0+(e:Int).toNat) a1.I=b.1.getD e (0,[]):=by rw[p];rfl
  generalize b.1.getD e (0,[])=n at *;by_cases x:n.1=d.2.1
  .by_cases w:0<=d.2.2.1
   .have i:¬d.2.2.1<c n.2:=λi=>s ⟨x,w,i⟩;refine a6 [(11,f),(19,f),(24,f),(31,m)] a Pw (g.aB (e+1) a E E r7 ?_);omega
   refine a6 [(11,f),(19,f),(24,m),(31,m)] a Pw (g.aB (e+1) a E E r7 ?_);omega
  refine a6 [(11,f),(19,m),(24,m),(31,m)] a ?_ (g.aB (e+1) a ?_ ?_ ?_ ?_)
  .simp only[U,a7,j,eU,bA,dt,ba,a9];and_intros<;>first|exact x|omega
  .simp
  .simp
  .exact r7
  omega
 obtain rfl:e=c b.1:=y;refine a6 [(11,m)] a E (g.aD ?_);exact QF
def VD(b)(d)(e:dN b)(j:d.1=3)(i:pO b d):
  bk (ι:=Unit) r 77 [b9 b,eB d] [] (λ_=>.q (.agg [dC 0 (c b.1) (c b.1),dC 1 (c b.2.1) (c b.2.1),.c (hQ b.2.2)])) (λ_=>[.h 91 2 (c b.1) (a1.fn b.1),.h 106 2 (c b.2.1) (bj.fn b.2.1)]):=by refine bk.bE bd func77 rfl rfl rfl λk=>?_;refine aZ a v (g.aF (o8 b e.a2 e.bs e.a7 e.bz e.aM) [] a (aZ a v (g.aF (Iq d j) [] a (aZ a v (g.cJ (Tx b d e i).tocD a a a a E a ?_)))));intro _;refine aZ a v (g.bd () [3,4] ?_ fI);simp
def VC(b)(d)(a:dN b)(g:d.1=3)(e:pO b d):Y r 77 [b9 b,eB d] [] (b9 b) []:=Ck (VD b d a g e)
end
section
open Go.Sort (pdq bitsLen ltInt Below)
variable {r:ai V}
def jV(a:p Int):p Int:=a.mergeSort λb d=>decide (b<=d)
def qL(d):c (jV d)=c d:=List.length_mergeSort _
def acz(d):pdq ltInt d.toArray 0 (c d) (bitsLen (c d)) f f=(jV d).toArray:=by have a:=Go.Sort.sortInt d;unfold Go.Sort.sort at a;rw[List.size_toArray]at a;exact Array.ext' bJ
theorem SX(d):sQ d.toArray=aB.fn d:=by funext w;simp only[sQ,cY.fn,gr,aB,al];simp
abbrev ja(b:Nat)(a:p Int):an:=.h 3 1 b (aB.fn a)
def Cl(d)(b:c d<=4000000):Y r 140 [dJ (c d)] [ja (c d) d] (.Q []) [ja (c d) (jV d)]:=by
 refine Y.K func140 rfl λe=>?_;refine cr a bJ (g.aF (Iw (c d) b) [] a (cr a v ?_));have j:=sD (l:=c d) (i:=22) M;have key:Y r 186 [dJ (c d),S 0,S (c d),S (bitsLen (c d))] [ja (c d) d] (.Q []) [ja (c d) (jV d)]:=by have:=Ws (r:=r) (c d) b (c d) d.toArray 0 (c d) (bitsLen (c d)) y E y (bC _) y (.inl a) (l:=0) a a a (acz d).symm;grind[SX]
 exact g.aF key [0] a (cr a v r8)
def fu(b:p Int):Nat->p Int
 |0=>[]
 |a+1=>if a≠0/\b.getD a 0=b.getD (a-1) 0 then fu b a else fu b a++[b.getD a 0]
def hG(a:p Int):p Int:=fu a (c a)
def wZ(d):∀a,c (fu d a)<=a
 |0=>bC _
 |a+1=>by have:=wZ d a;simp[fu];grind
def ux{d}:∀{b:Nat},b<=c d->(∀a,1<=a->a<b->d.getD a 0≠d.getD (a-1) 0)->fu d b=d.take b
 |0,_,_=>by simp[fu]
 |b+1,i,g=>by rw[fu,bm,ux y λa e j=>g a e y,ia y 0];grind
structure Rh(d:p Int)(s_:Nat)(rH:Nat)(nG:p Int):Prop where
 i':1<=rH
 fD:s_+rH<=c d
 len:c nG=c d
 lt:c (fu d (s_+rH))<s_+rH
 done:nG.take (c (fu d (s_+rH)))=fu d (s_+rH)
 hJ:∀e,s_+rH<=e+1->nG.getD e 0=d.getD e 0
abbrev Af(d:p Int):Type:={a:Nat->p N // ∀b,b<c d->a b=aB.fn d b}
def Ik(d)(Z:c d<=4000000):bk (ι:=Af (hG d)) r 141 [dJ (c d)] [ja (c d) d] (λ_=>cy 0 (.S (c d) 1 0 (c (hG d)))) (λA=>[.h 3 1 (c d) A.1]):=by
 refine bk.cu func141 rfl rfl rfl λY=>?_;by_cases O:c d<2
 .have o:hG d=d:=by unfold hG;rw[ux (bC _) λb _ _=>by omega,c9]
  refine bP [(8,f)] a bw (g.bL ⟨aB.fn d,λb _=>by rw[o]⟩ (g.aS [0] a ?_ g2));simp[o]
 refine bP [(8,m)] a bw (g.cl (S2:=Unit) 0 a a (λ_=>hG d=d) (λ_=>[(0,dJ (c d))]) (λ_=>[ja (c d) d]) 1 (λi:Nat=>1<=i/\i<=c d/\∀b,1<=b->b<i->d.getD b 0≠d.getD (b-1) 0) (λi=>[(0,dJ (c d)),(3,S i)]) (λ_=>[ja (c d) d]) (λi=>c d-i) 1 a E a E a ⟨bC _,by omega,λb G O=>by omega⟩ ?_ ?_)
 .rintro du i ⟨V,b1,D⟩;by_cases ab:i<c d
  .have aa:((i:Int)-1).toNat=i-1:=y;have F:∀u,d.getD u aB.I=d.getD u 0:=λ_=>rfl;by_cases n:d.getD i 0=d.getD (i-1) 0
   .refine bP [(13,f),(25,f)] a ?_ ?_
    .simp only[U,cV,c1,aa,F,n,a7,bA,fX,ba,a9];exact fp
    have aQ:=ux (d:=d) y D;have H:fu d (i+1)=d.take i:=by rw[fu,bs ⟨by omega,n⟩,aQ]
    refine g.cl (S2:=p Int) 2 a a (λs=>c s=c d/\s.take (c (hG d))=hG d) (λ_=>[(0,dJ (c d)),(3,S (c (hG d)))]) (λs=>[ja (c d) s]) 1 (λe:Nat×p Int=>Rh d i e.1 e.2) (λe=>[(0,dJ (c d)),(3,S (c (fu d (i+e.1)))),(4,cy 0 (.S (c d) 1 i (c d-i))),(5,S e.1)]) (λe=>[ja (c d) e.2]) (λe=>c d-e.1) (1,d) a bJ a E a ?_ ?_ ?_
    .exact⟨bC _,by omega,a,by grind,by grind,λ_ _=>rfl⟩
    .rintro T ⟨j,s⟩ ⟨gZ,iE,jE,uJ,k,t⟩;simp only at gZ iE jE uJ k t;by_cases ad:i+j<c d
     .have J:((j:Int)-1).toNat=j-1:=y;have C:∀u,s.getD u aB.I=s.getD u 0:=λ_=>rfl;have B:s.getD (i+j) 0=d.getD (i+j) 0:=t _ y;have Q:s.getD (i+(j-1)) 0=d.getD (i+(j-1)) 0:=t _ y;by_cases w:d.getD (i+j) 0=d.getD (i+(j-1)) 0
      .have K:fu d (i+(j+1))=fu d (i+j):=by rw[show i+(j+1)=i+j+1 by omega,fu,bs ⟨by omega,by rw[w,show i+j-1=i+(j-1) by omega]⟩]
       refine bP [(32,f),(44,m)] a ?_ (g.aB (j+1,s) a ?_ ?_ ?_ ?_)
       .simp only[U,cV,c1,J,C,B,Q,w,a7,bA,iB,gj,fX,ba,a9];and_intros<;>first|trivial|omega
       .exact bJ
       .simp
       .exact⟨by grind,by grind,jE,by grind,by grind,λb l=>t b M⟩
       omega
      have K:fu d (i+(j+1))=fu d (i+j)++[d.getD (i+j) 0]:=by rw[show i+(j+1)=i+j+1 by omega,fu,bm];rintro⟨_,n⟩;exact w (by rw[n,show i+j-1=i+(j-1) by omega])
      refine bP [(32,f),(44,f)] a ?_ (g.aB (j+1,s.set (c (fu d (i+j))) (d.getD (i+j) 0)) a ?_ ?_ ?_ ?_)
      .simp only[U,cV,c1,J,C,B,Q,a7,bA,j5,eU,j8,d8,ba,a9];and_intros<;>first|exact w|omega
      .exact bJ
      .have x:=aB.cT s (c (fu d (i+j))) (d.getD (i+j) 0) (c d) y;simp only[U.Y,U,cV,c1,C,B,a9,ba];exact x
      .refine⟨by grind,by grind,by grind,by grind,?_,λb l=>?_⟩
       .simp only;rw[K,dm,show ∀R:Int,[R].length=1 fromλ_=>rfl,wU,AB,FT M,k,ij y];rfl
       simp only at l⊢;rw[al,kA y,<-al];grind
      omega
     have X:i+j=c d:=y;have I:fu d (i+j)=hG d:=bJ;refine bP [(32,m)] a bw (g.aD ?_);rw[I]at k;exact T s ⟨jE,k⟩ a (by simp[I]) a E
    rintro s ⟨N,z⟩;have W:c (hG d)<=c d:=wZ d _;refine cr a bw (g.aP (a0.eT bd a a a a a a wt) a a ?_);refine aZ a bw (g.aX ⟨⟨nH (0+bS 0 (h (c (hG d):Int))) (0+bS 0 (h (c (hG d):Int))+(bS (c d) q-bS 0 (h (c (hG d):Int)))) ec.zero (aB.fn s),λb l=>?_⟩,bT.mk [0] a ?_ a a a g2⟩)
    .have x:s[b]?=(hG d)[b]?:=M;refine(Nd wt).trans ?_;simp[cY.fn,gr,al,x]
    exact bJ
   refine bP [(13,f),(25,m)] a ?_ (g.aB (i+1) a ?_ ?_ ?_ ?_)
   .simp only[U,cV,c1,aa,F,a7,bA,eU,d8,ba,a9];and_intros<;>first|exact n|omega
   .simp
   .simp
   .grind
   omega
  obtain rfl:i=c d:=y;refine bP [(13,m)] a E (g.aD ?_);exact du () (by unfold hG;rw[ux (bC _) D,c9]) a E a E
 rintro⟨⟩ o;refine cr a v (g.bL ⟨aB.fn d,λb _=>by rw[o]⟩ (g.aS [0] a ?_ g2));simp[o]
end
section
variable {r:ai V}
def d_(a:p mZ):p Int:=a.flatMap (·.2)
def fV(a:eE):p Int:=hG (jV (d_ a.2))
def Kk{d}(a:e<c d):d_ (d.take (e+1))=d_ (d.take e)++(d.getD e ([],[])).2:=by rw[ia a ([],[])];simp[d_]
def _root_.Go.AM.cY.g'(b:cY α)(a j)(k)(e:k=c (a++j)):bt k (ce (c a) (b.fn a) (b.fn j)) (b.fn (a++j)):=by intro g d;simp only[ce,cY.fn,gr,al];grind
def WX(l)(A:c l.2<=4000000)(j:c (d_ l.2)<=4000000)(u:∀b,b<=c l.2->c (d_ (l.2.take b))<=4000000):
  bk (ι:=Af (fV l)) r 108 [iJ l] [] (λ_=>cy 0 (.S (c (d_ l.2)) 1 0 (c (fV l)))) (λd=>[.h 3 1 (c (d_ l.2)) d.1]):=by
 refine bk.cu func108 rfl rfl rfl λz=>?_;refine bP [(1000002,f)] a v (g.fb 3 3 1 (aB.fn []) a ?_);refine cr a v ?_;refine g.aN 2 (λb=>b<=c l.2) (λb:Nat=>[(3,cy 1 (.S (c (d_ (l.2.take b))) 1 0 (c (d_ (l.2.take b))))),(7,cu.S l.2),(8,S (c l.2)),(9,S b)])
  (λb=>[.cells 106 [.c (.int .i64 l.1),.c (.S m 2 (c l.2) (cu.fn l.2))],ja (c (d_ (l.2.take b))) (d_ (l.2.take b))]) (λb=>c l.2-b) 0 a ?_ a ?_ a y ?_
 .simp[d_]
 .simp[bt,d_]
 intro b s;by_cases k:b<c l.2
 .have i:l.2.getD (b:Int).toNat cu.I=l.2.getD b ([],[]):=dA;have e:=Kk k;have p:=u (b+1) k;rw[e,dm]at p;refine bP [(10,f)] a ?_ (g.aB (b+1) a ?_ ?_ ?_ ?_)
  .simp only[U,i,a7,show ec.bytes=8 from a,bA,ba,a9];exact fp
  .simp only[U.Y,U,i,e,dm,a9,ba];and_intros<;>first|exact bt.same|rfl|omega
  .have w:=aB.g' (d_ (l.2.take b)) (l.2.getD b ([],[])).2 _ a;simp_all
  .omega
  omega
 obtain rfl:b=c l.2:=y;rw[c9];refine bP [(10,m)] a E (g.aD ?_);refine cr a v (g.aF (Cl (d_ l.2) j) [1] a (cr a v ?_));have n:=Ik (r:=r) (jV (d_ l.2)) (by rw[qL];exact j);rw[qL]at n;refine g.a9 n [1] a bl ?_;rintro⟨d,o⟩;refine cr a v (g.bL ⟨d,o⟩ (g.aS [1] a ?_ (λx t=>absurd t E)));simp[fV]
def Kl(d)(e):c (d_ (d.take e))<=c (d_ d):=by
 have a:d_ d=d_ (d.take e)++d_ (d.drop e):=by unfold d_;grind[List.take_append_drop]
 grind
def HC(d):c (hG d)<=c d:=wZ d _
def WW(l)(e:c l.2<=4000000)(a:c (d_ l.2)<=4000000):Y r 108 [iJ l] [] (aB.S (fV l)) []:=by
 have b:=WX (r:=r) l e a λg _=>fF (Kl _ _) a;have d:=bk.bO (aL:=λ_:Af (fV l)=>[]) (W:=3) (i:=1) (k:=λ_=>c (d_ l.2)) (T:=λT=>T.1) b bl (λ_=>?_) bl (λ_=>bC _);refine(d.le (oB:=λ_=>aB.S (fV l)) bl (λT=>?_)).aq
 .simp only[U.Y,U,a9,ba];exact T.2
 have:c (fV l)<=c (d_ l.2):=QY;exact bw
def Xv(b)(e)(d:dZ b=f)(p:3<=e)(i:e<=c b)(n:c b<=4000000):Y r 291 [bZ b,S e] [] (bi (pF b e)) []:=by
 refine Y.K func291 rfl λk=>?_;have l:=ta d (e-1) y;have o:=ta d (e-2) y;have t:=ta d (e-3) y;have j:((kF b ((e:Int)-1)).toNat:Int)=dj b (e-1):=tW;have I:((kF b ((e:Int)-2)).toNat:Int)=dj b (e-2):=tW;have s:((kF b ((e:Int)-3)).toNat:Int)=dj b (e-3):=tW;refine aZ a ?_ (g.aw a ?_)
 .simp only[U,a7,j,I,s];omega
 exact NP
abbrev Hi:bK:=ek ez c8 (λa b=>bi (pF a b.toNat)) λa b=>[dZ a=f,3<=b,b<=c a,c a<=4000000]
def ad':bL r 291 Hi:=.bl λi b g=>by
 obtain⟨d,j,k,e⟩:=g;obtain⟨a,rfl⟩:∃a:Nat,b=a:=⟨b.toNat,by omega⟩
 exact Xv i a d y y e
def Tn(o)(d)(e:dZ o=f)(u:d<=c o)(z:c o<=4000000):Y r 254 [bZ o,S d] [] (S (eA o d)) []:=by
 refine Y.K func254 rfl λw=>?_;have k:a8 r [(291,Hi)]:=.cons ad' .nil;refine b_ k a v (g.ca (λb=>b<=5/\lK o d (5-b)=eA o d) (λb:Nat=>[(0,bZ o),(1,S d),(5,S (3+b))]) (λ_=>[]) (λb=>5-b) 0 a E a v ⟨by omega,a⟩ ?_);rintro b ⟨x,j⟩;by_cases t:b<5
 .obtain⟨i,b1⟩:∃i,5-b=i+1:=⟨4-b,by omega⟩
  have n:d+(7-i)=d+3+b:=y;rw[b1]at j;simp[lK,n]at j;by_cases l:c o<=d+3+b
  .rw[bs l]at j;refine a_ k [(7,f),(15,f)] a Q_ (g.bX (bT.zero a ?_));exact bw
  rw[bm l]at j;have aj:((d:Int)+(3+(b:Int))).toNat=d+3+b:=y;cases s:pF o (d+3+b)with
  |true=>
   rw[s,bs a]at j;refine a_ k [(7,f),(15,m),(22,f)] a Qa (g.bX (bT.zero a ?_));exact bw
  |false=>
   rw[s,bm E]at j;refine a_ k [(7,f),(15,m),(22,m)] a Qa (g.b5 (b+1) a ?_ a v ⟨by omega,by grind⟩ y);exact bw
 have aj:eA o d=min (d+8) (c o):=by rw[<-j,show 5-b=0 by omega];rfl
 have p:a7 .i64 ((min (d+8) (c o):Nat):Int):=bJ;refine a_ k [(7,m)] a bw (g.bt a a ?_);refine b_ k a bJ (g.aP (yy ((min (d+8) (c o):Nat):Int) a a a y p) a a ?_);refine b_ k a v (g.aw a ?_);simp[aj]
abbrev GD:bK:=ek ez c8 (λa b=>S (eA a b.toNat)) λa b=>[dZ a=f,0<=b,b<=c a,c a<=4000000]
def adl:bL r 254 GD:=.bl λi b g=>by
 obtain⟨d,j,k,e⟩:=g;obtain⟨a,rfl⟩:∃a:Nat,b=a:=⟨b.toNat,by omega⟩
 exact Tn i a d y e
abbrev mt(b:bE):p Int:=(SE b).map λa:Nat=>(a:Int)
def Ua(o)(z:dZ o=f)(D:c o<=4000000):Y r 215 [bZ o] [] (aB.S (mt o)) []:=by
 refine Y.K func215 rfl λC=>?_;have j:a8 r [(254,GD)]:=.cons adl .nil;refine a_ j [(1000003,f)] a v (g.bP 3 3 1 a a ?_);refine b_ j a v (g.aN 1 (λd:Nat×p Int=>d.1<=c o/\c d.2<=d.1/\∃e,c o<=d.1+e/\mt o=d.2++(k_ o e d.1).map λA:Nat=>(A:Int)) (λd=>[(0,bZ o),(3,.q (.aq (.r 0 1 (c d.2) (aB.fn d.2)))),(4,S d.1)]) (λd=>[.r 3 1 (c d.2) (aB.fn d.2)]) (λd=>c o-d.1) (0,[]) a E a E a ⟨by simp,by simp,c o,by simp,by exact bJ⟩ ?_);rintro⟨i,b⟩ ⟨x,w,e,l,t⟩;simp only at x w l t;by_cases k:i<c o
 .obtain⟨e,rfl⟩:∃n,e=n+1:=⟨e-1,by omega⟩
  have y:=sL o i k;have u:=aB.a0 b (eA o i:Int);have s:c b+1=c (b++[(eA o i:Int)]):=E;refine a_ j [(9,f)] a ?_ (g.aB (eA o i,b++[(eA o i:Int)]) a ?_ ?_ ?_ ?_)
  .simp only[U,z,show ec.bytes=8 from a,bA,ba,a9];exact fp
  .exact U.Y.2 ⟨a,U.Y.2 ⟨⟨s,u⟩,U.Y.2 ⟨a,v⟩⟩⟩
  .exact U.Y.2 ⟨⟨s,u⟩,v⟩
  .refine⟨y.2.1,by grind,e,by grind,?_⟩;rw[t];simp only[k_,bs k];simp
  grind
 have B:mt o=b:=by
  have:k_ o e i=[]:=by cases e<;>simp[k_,k]
  grind
 refine a_ j [(9,m)] a bw (g.aD ?_);refine b_ j a v (g.aw a ?_);simp_all
abbrev GL:bK:=df ez (λa=>aB.S (mt a)) λa=>[dZ a=f,c a<=4000000]
def adu:bL r 215 GL:=.bb λb a=>Ua b a.1 a.2
def SU{d a}{b:α}(i:d.drop e=b::a)(g:α):e<c d/\d.getD e g=b/\d.drop (e+1)=a:=by grind[List.drop_eq_nil_of_le,List.drop_eq_getElem_cons]
def H'(o):∀a b,c (k_ o a b)<=a
 |0,_=>bC _
 |a+1,b=>by
  simp[k_];split
  .have:=H' o a (eA o b);grind
  simp
def Th(o)(R:dZ o=f)(O:c o<=4000000):Y r 177 [bZ o] [] (bQ.S (cx o)) []:=by
 refine Y.K func177 rfl λW=>?_;have k:a8 r [(215,GL)]:=.cons adu .nil;have V:c (mt o)<=c o:=by simp[mt,k0];exact H' o _ _
 refine a_ k [(1000002,f)] a v (g.bP 3 9 1 a a ?_);refine b_ k a dA (g.aN 1 (λd:Nat×Nat×p bE=>d.1<=c (mt o)/\d.2.1<=c o/\c d.2.2<=d.1/\∃i,c o<=d.2.1+i/\(mt o).drop d.1=((k_ o i d.2.1).map λJ:Nat=>(J:Int))/\cx o=d.2.2++jR o i d.2.1) (λd=>[(0,bZ o),(3,.q (.aq (.r 0 1 (c d.2.2) (bQ.fn d.2.2)))),(4,S d.2.1),(5,aB.S (mt o)),(6,S d.1)]) (λd=>[.r 9 1 (c d.2.2) (bQ.fn d.2.2)]) (λd=>c (mt o)-d.1) (0,0,[]) a E a E a ⟨by simp,by simp,by simp,c o,by simp,by exact bJ,by simp[cx]⟩ ?_);rintro⟨t,b,e⟩ ⟨n,I,F,i,s,y,x⟩;simp only at n I F s y x;by_cases l:t<c (mt o)
 .have C:k_ o i b≠[]:=by grind[List.length_drop]
  obtain⟨i,rfl⟩:∃w,i=w+1:=by
   cases i with
   |zero=>exact bJ
   |succ i=>grind
  have j:b<c o:=by
   rcases dY b (c o) with l|l
   .exact l
   exact absurd (by simp[k_,bm (show¬b<c o by omega)]) C
  simp[k_,bs j,mg]at y;obtain⟨_,X,N⟩:=SU y 0;have K:=sL o b j;have u:(mt o).getD (t:Int).toNat aB.I=(eA o b:Int):=M;have z:mo o (h (b:Int)) (h (eA o b:Int))=(o.drop b).take (eA o b-b):=NH;have D:=bQ.a0 e ((o.drop b).take (eA o b-b));have B:c e+1=c (e++[(o.drop b).take (eA o b-b)]):=E;refine a_ k [(13,f)] a ?_ (g.aB (t+1,eA o b,e++[(o.drop b).take (eA o b-b)]) a ?_ ?_ ?_ ?_)
  .simp only[U,u,a7,jc,show s3.bytes=16 from a,bA,ba,a9];exact fp
  .simp only[U.Y,U,u,z,ba,a9];and_intros<;>first|exact B|exact D|simp|omega
  .simp only[U.Y,U,u,z,ba,a9];and_intros<;>first|exact B|exact D
  .refine⟨by grind,K.2.1,by grind,i,by grind,N,?_⟩;rw[x];simp only[jR,bs j];simp
  grind
 have T:cx o=e:=by
  have A:k_ o i b=[]:=by grind[List.map_eq_nil_iff]
  have j:¬b<c o:=by
   intro Q;cases i with
   |zero=>omega
   |succ i=>simp only[k_,bs Q]at A;cases A
  rw[x];cases i<;>simp[jR,j]
 refine a_ k [(13,m)] a dA (g.aD ?_);refine b_ k a v (g.aw a ?_);simp_all
abbrev xk:bK:=df ez (λa=>bQ.S (cx a)) λa=>[dZ a=f,c a<=4000000]
def Ed:bL r 177 xk:=.bb λb a=>Th b a.1 a.2
def _root_.Go.AM.cY.eW(b:cY α)(d)(l X):bt (c d+1+1) (ce (c d+1) (ce (c d) (b.fn d) λa=>[b.a8 l].getD a []) λa=>[b.a8 X].getD a []) (b.fn (d++[l,X])):=by
 have i:=b.a0 d l;have e:=b.a0 (d++[l]) X;rw[show(d++[l]).length=c d+1 by simp,show d++[l]++[X]=d++[l,X] by simp]at e;intro a j;rw[<-e a j];simp[ce];by_cases g:a<c d+1
 .rw[bs g,bs g];exact i a g
 grind
abbrev SJ(a:cW):z:=.q (.agg [.c (.int .i64 a.1),.c (.V a.2)])
def jp(d:cW)(a:p cW×Bool)(b:cW):p cW×Bool:=if a.2=f then(a.1++[b],f)else if d.1<b.1 then(a.1++[d,b],f)else(a.1++[b],m)
def L'(l):∀b(a:p cW),(b.foldl (jp l) (a,f))=(a++b,f)
 |[],a=>by simp
 |d::e,a=>by rw[j7,show jp l (a,f) d=(a++[d],f)from rfl,L' l e];simp
def Ma(l):∀e(a:p cW),(if(e.foldl (jp l) (a,m)).2=f then(e.foldl (jp l) (a,m)).1 else(e.foldl (jp l) (a,m)).1++[l])=a++fB e l
 |[],a=>by simp[fB]
 |b::g,a=>by
  rw[j7];by_cases d:l.1<b.1
  .rw[show jp l (a,m) b=(a++[l,b],f) by simp[jp,d],L'];simp[fB,d]
  rw[show jp l (a,m) b=(a++[b],m) by simp[jp,d],Ma l g];simp[fB,d]
theorem Mb(l):∀b(a:p cW×Bool),(b.foldl (jp l) a).1.length<=c a.1+c b+1-(if a.2=f then 1 else 0)
 |[],a=>by grind
 |e::d,a=>by rw[j7];have:=Mb l d (jp l a e);unfold jp at this⊢;grind
abbrev mi(d:cW)(b:p cW)(a:Nat):p cW×Bool:=(b.take a).foldl (jp d) ([],m)
def RE{l}{d}(a:e<c d):mi l d (e+1)=jp l (mi l d e) (d.getD e (0,[])):=ib
def FW(l)(d)(e):(mi l d e).1.length<=c d+1:=by grind[Mb]
abbrev aaY(d:p cW)(e:cW)(b:Nat)(a:p cW×Bool):bH:=[(0,bG.S d),(3,aG 0 0),(5,.q (.aq (.r 1 2 (c a.1) (bG.fn a.1)))),(6,bi a.2),(7,S b)]
abbrev aaX(b:cW)(a:p cW):p an:=[.cells 131 [.c (.int .i64 b.1),.c (.V b.2)],.r 131 2 (c a) (bG.fn a)]
def Wy(d)(l)(A:c d<=4000000):Y r 182 [bG.S d,SJ l] [] (bG.S (fB d l)) []:=by
 refine Y.K func182 rfl λz=>?_;refine bP [(1000002,f)] a v (g.bP 5 131 2 a a ?_);refine cr a v (g.aN 2 (λb=>b<=c d) (λb:Nat=>aaY d l b (mi l d b)) (λb=>aaX l (mi l d b).1) (λb=>c d-b) 0 a ?_ a ?_ a y ?_)
 .simp[mi]
 .simp[mi]
 intro b u;by_cases t:b<c d
 .have k:=RE (l:=l) t;have j:=FW l d b;have ae:d.getD (b:Int).toNat bG.I=d.getD b (0,[]):=M;generalize mi l d b=e at k j;obtain⟨e,o⟩:=e;simp only at j;have i:=bG.a0 e (d.getD b (0,[]));have p:=bG.eW e l (d.getD b (0,[]));cases o with
  |true=>
   have s:mi l d (b+1)=(e++[d.getD b (0,[])],f):=k;have w:c e+1=c (e++[d.getD b (0,[])]):=E;refine bP [(12,f)] a ?_ (g.aB (b+1) a ?_ ?_ ?_ ?_)
   .simp only[U,ae,a7,show lV.bytes=24 from a,bA,ba,a9];exact fp
   .exact N5
   .exact Oq
   .grind
   omega
  |false=>
   by_cases n:l.1<(d.getD b (0,[])).1
   .have s:mi l d (b+1)=(e++[l,d.getD b (0,[])],f):=by rw[k];simp only[jp,bs n];rfl
    have w:c e+1+1=c (e++[l,d.getD b (0,[])]):=E;refine bP [(12,f),(25,f)] a ?_ (g.aB (b+1) a ?_ ?_ ?_ ?_)
    .simp only[U,ae,a7,show lV.bytes=24 from a,n,m8,bA,ba,a9];exact fp
    .rw[s];simp[U.Y,U,ae,ba,a9];and_intros<;>first|exact w|exact p|simp|rfl|omega
    .rw[s];simp[U.Y,U,ae,ba,a9];and_intros<;>first|exact w|exact p|exactλ_ _=>rfl|rfl|omega
    .grind
    omega
   have s:mi l d (b+1)=(e++[d.getD b (0,[])],m):=by rw[k];simp only[jp,bm n];rfl
   have w:c e+1=c (e++[d.getD b (0,[])]):=E;refine bP [(12,f),(25,m)] a ?_ (g.aB (b+1) a ?_ ?_ ?_ ?_)
   .simp only[U,ae,a7,show lV.bytes=24 from a,bA,n,oV,p5,dt,ba,a9];exact fp
   .exact N5
   .exact Oq
   .grind
   omega
 obtain rfl:b=c d:=y;have I:=Ma l d [];have j:=FW l d (c d);refine bP [(12,m)] a E (g.aD ?_);have x:mi l d (c d)=d.foldl (jp l) ([],m):=M;rw[x]at j⊢;generalize d.foldl (jp l) ([],m)=e at *;obtain⟨e,o⟩:=e;simp only[p1]at I j;cases o with
 |true=>
  exact QG
 |false=>
  simp only[j6,dh]at I;have i:=bG.a0 e l;refine cr a ?_ (g.aw a ?_)
  .simp only[U,show lV.bytes=24 from a,ba,a9];grind
  rw[<-I];simp only[U.Y,U,ba,a9];and_intros<;>first|exact i|simp
abbrev G_:bK:=ek (eX bG) sf (λa b=>bG.S (fB a b)) λa _=>[c a<=4000000]
def ad0:bL r 182 G_:=.bl λb d a=>Wy b d a
abbrev SM(a:fr):z:=.q (.agg [.c (.int .i64 a.1),.c (.int .i64 a.2)])
def fe(d:fr)(a:p fr×Bool)(b:fr):p fr×Bool:=
 if a.2=f then(if b.1=d.1 then a else(a.1++[b],f))else if d.1<=b.1 then(if b.1=d.1 then(a.1++[d],f)else(a.1++[d,b],f))else(a.1++[b],m)
def zb(l):∀(e:p fr)a,(e.foldl (fe l) (a,f))=(a++e.filter λi=>!(i.1==l.1),f)
 |[],a=>by simp
 |d::g,a=>by
  rw[j7];by_cases b:d.1=l.1
  .rw[show fe l (a,f) d=(a,f) by simp[fe,b],zb l g];simp[b]
  rw[show fe l (a,f) d=(a++[d],f) by simp[fe,b],zb l g];simp[b]
def Md(l):∀e(a:p fr),(if(e.foldl (fe l) (a,m)).2=f then(e.foldl (fe l) (a,m)).1 else(e.foldl (fe l) (a,m)).1++[l])=a++eu e l
 |[],a=>by simp[eu]
 |b::i,a=>by
  rw[j7];by_cases g:l.1<=b.1
  .have s:¬b.1<l.1:=y;by_cases d:b.1=l.1
   .rw[show fe l (a,m) b=(a++[l],f) by simp[fe,d],zb];simp[eu,d]
   rw[show fe l (a,m) b=(a++[l,b],f) by simp[fe,g,d],zb];simp[eu,s,d]
  have s:b.1<l.1:=y;rw[show fe l (a,m) b=(a++[b],m) by simp[fe,g],Md l i];simp[eu,s]
theorem Me(l):∀i(a:p fr×Bool),(i.foldl (fe l) a).1.length<=c a.1+c i+1-(if a.2=f then 1 else 0)
 |[],a=>by grind
 |b::k,a=>by
  rw[j7];have e:=Me l k (fe l a b);obtain⟨a,j⟩:=a;simp[fj];cases j with
  |true=>
   by_cases d:b.1=l.1
   .rw[show fe l (a,f) b=(a,f) by simp[fe,d]]at e⊢;grind
   rw[show fe l (a,f) b=(a++[b],f) by simp[fe,d]]at e⊢;grind
  |false=>
   by_cases g:l.1<=b.1
   .by_cases d:b.1=l.1
    .rw[show fe l (a,m) b=(a++[l],f) by simp[fe,d]]at e⊢;grind
    rw[show fe l (a,m) b=(a++[l,b],f) by simp[fe,g,d]]at e⊢;grind
   rw[show fe l (a,m) b=(a++[b],m) by simp[fe,g]]at e⊢;grind
abbrev k3(d:fr)(b:p fr)(a:Nat):p fr×Bool:=(b.take a).foldl (fe d) ([],m)
def RF{l}{d}(a:e<c d):k3 l d (e+1)=fe l (k3 l d e) (d.getD e (0,0)):=ib
def FX(l)(d)(e):(k3 l d e).1.length<=c d+1:=by grind[Me]
abbrev aa0(d:p fr)(e:fr)(b:Nat)(a:p fr×Bool):bH:=[(0,eZ.S d),(3,aG 0 0),(5,.q (.aq (.r 1 2 (c a.1) (eZ.fn a.1)))),(6,bi a.2),(7,S b)]
abbrev aaZ(b:fr)(a:p fr):p an:=[.cells 222 [.c (.int .i64 b.1),.c (.int .i64 b.2)],.r 222 2 (c a) (eZ.fn a)]
def Wz(d)(l:fr)(z:c d<=4000000):Y r 181 [eZ.S d,SM l] [] (eZ.S (eu d l)) []:=by
 refine Y.K func181 rfl λx=>?_;refine bP [(1000002,f)] a v (g.bP 5 222 2 a a ?_);refine cr a v (g.aN 2 (λb=>b<=c d) (λb:Nat=>aa0 d l b (k3 l d b)) (λb=>aaZ l (k3 l d b).1) (λb=>c d-b) 0 a ?_ a ?_ a y ?_)
 .simp[k3]
 .simp[k3]
 intro b t;by_cases p:b<c d
 .have i:=RF (l:=l) p;have j:=FX l d b;have ae:d.getD (b:Int).toNat eZ.I=d.getD b (0,0):=M;generalize k3 l d b=e at i j;obtain⟨e,k⟩:=e;simp only at j;have w:=eZ.a0 e (d.getD b (0,0));have n:=eZ.a0 e l;have o:=eZ.eW e l (d.getD b (0,0));cases k with
  |true=>
   by_cases heq:(d.getD b (0,0)).1=l.1
   .have s:k3 l d (b+1)=(e,f):=by rw[i];simp only[fe,dH,bs heq]
    refine bP [(12,f),(38,m)] a PK (g.aB (b+1) a FA FA M ?_);omega
   have s:k3 l d (b+1)=(e++[d.getD b (0,0)],f):=by rw[i];simp only[fe,dH,bm heq]
   refine bP [(12,f),(38,f)] a PK (g.aB (b+1) a Ol O9 M ?_);omega
  |false=>
   by_cases aj:l.1<=(d.getD b (0,0)).1
   .by_cases heq:(d.getD b (0,0)).1=l.1
    .have s:k3 l d (b+1)=(e++[l],f):=by rw[i];simp only[fe,bs aj,bs heq];rfl
     refine bP [(12,f),(25,f),(38,m)] a E0 (g.aB (b+1) a ?_ ?_ ?_ ?_)
     .rw[s];simp only[U.Y,U,ae,ba,a9];and_intros<;>first|exact w|exact n|simp|simp|rfl|omega|simp
     .rw[s];exact bJ
     .grind
     omega
    have s:k3 l d (b+1)=(e++[l,d.getD b (0,0)],f):=by rw[i];simp only[fe,bs aj,bm heq];rfl
    refine bP [(12,f),(25,f),(38,f)] a E0 (g.aB (b+1) a ?_ ?_ ?_ ?_)
    .rw[s];simp only[U.Y,U,ae,ba,a9];and_intros<;>first|exact w|exact n|exact o|simp|rfl|omega|simp
    .rw[s];simp only[U.Y,U,ae,ba,a9];and_intros<;>first|exact w|exact n|exact o|grind|rfl|omega|simp
    .grind
    omega
   have heq:¬(d.getD b (0,0)).1=l.1:=y;have s:k3 l d (b+1)=(e++[d.getD b (0,0)],m):=by rw[i];simp only[fe,bm aj];rfl
   refine bP [(12,f),(25,m),(38,f)] a E0 (g.aB (b+1) a Ol O9 M ?_);omega
 obtain rfl:b=c d:=y;have I:=Md l d [];have j:=FX l d (c d);refine bP [(12,m)] a E (g.aD ?_);have u:k3 l d (c d)=d.foldl (fe l) ([],m):=M;rw[u]at j⊢;generalize d.foldl (fe l) ([],m)=e at *;obtain⟨e,k⟩:=e;simp only[p1]at I j;cases k with
 |true=>
  exact QG
 |false=>
  simp only[j6,dh]at I;have w:=eZ.a0 e l;refine cr a ?_ (g.aw a ?_)
  .simp only[U,show oj.bytes=16 from a,ba,a9];grind
  rw[<-I];simp only[U.Y,U,ba,a9];and_intros<;>first|exact w|simp
abbrev G':bK:=ek (eX eZ) pW (λa b=>eZ.S (eu a b)) λa _=>[c a<=4000000]
def ad1:bL r 181 G':=.bl λb d a=>Wz b d a
abbrev D6(a:ca):p fr:=a.2.map λb=>(b.1,a.1)
def g9(b:p ca)(a d:Nat):p fr:=dP (b.take a)++(D6 (b.getD a (0,[]))).take d
def D7{d}(a:e<c d):dP (d.take (e+1))=dP (d.take e)++D6 (d.getD e (0,[])):=by rw[ia a (0,[])];simp[dP]
theorem L5(d)(e):c (dP (d.take e))<=c (dP d):=by have a:dP d=dP (d.take e)++dP (d.drop e):=Rc;grind
def y_{d}(b:e<c d):∃g,dP d=g9 d e w++g:=by have a:dP d=dP (d.take (e+1))++dP (d.drop (e+1)):=Rc;refine⟨(D6 (d.getD e (0,[]))).drop w++dP (d.drop (e+1)),?_⟩;rw[a,D7 b,g9,mh,mh];grind[List.take_append_drop]
theorem abx(d)(l):c (eu d l)<=c d+1:=by
 induction d with
 |nil=>simp[eu]
 |cons e b a=>
  simp only[eu];grind
theorem CI(d):∀a:p fr,c (d.foldl eu a)<=c a+c d:=by
 induction d with
 |nil=>grind
 |cons g e b=>grind[abx]
def UX(d)(J:c d<=4000000)(I:c (dP d)<=100000):Y r 135 [a1.S d] [] (eZ.S (e3 d)) []:=by
 refine Y.K func135 rfl λK=>?_;have e:a8 r [(180,Hg),(181,G')]:=.cons ad9 (.cons ad1 .nil);refine cG e a v (g.aN 0 (λb=>b<=c d/\(dP (d.take b)).all gv=f) (λb:Nat=>[(0,a1.S d),(3,eZ.S ((dP (d.take b)).foldl eu [])),(4,S b)]) (λ_=>[]) (λb=>c d-b) 0 a ?_ a ?_ a ⟨by omega,a⟩ ?_)
 .simp[dP]
 .simp
 rintro b ⟨s,k⟩;by_cases l:b<c d
 .have i:d.getD (b:Int).toNat a1.I=d.getD b (0,[]):=M;have p:=D7 l;refine bf e [(11,f)] a bw (g.aN 0 (λw=>w<=(d.getD b (0,[])).2.length/\(g9 d b w).all gv=f) (λw:Nat=>[(0,a1.S d),(3,eZ.S ((g9 d b w).foldl eu [])),(4,S b),(5,S w)]) (λ_=>[]) (λw=>(d.getD b (0,[])).2.length-w) 0 a ?_ a ?_ a ⟨by omega,by simpa[g9]using k⟩ ?_)
  .simp[g9]
  .simp
  rintro w ⟨O,C⟩;obtain⟨z,x⟩:=y_ (d:=d) (w:=w) l;have B:c (g9 d b w)<=100000:=M;have u:=CI (g9 d b w) [];simp only[gz]at u;have D:(d.getD b (0,[])).2.length<=100000:=by grind[L5]
  by_cases N:w<(d.getD b (0,[])).2.length
  .have j:(d.getD b (0,[])).2.getD (w:Int).toNat bG.I=(d.getD b (0,[])).2.getD w (0,[]):=M;have t:g9 d b (w+1)=g9 d b w++[(((d.getD b (0,[])).2.getD w (0,[])).1,(d.getD b (0,[])).1)]:=QV;cases n:gv (((d.getD b (0,[])).2.getD w (0,[])).1,(d.getD b (0,[])).1)with
   |false=>
    have A:e3 d=[]:=by obtain⟨z,x⟩:=y_ (d:=d) (w:=w+1) l;unfold e3;rw[bm];grind
    refine bf e [(21,f),(40,m)] a ?_ (g.aX (bT.zero a ?_))
    .simp only[U,i,j,n,bA,ba,a9];exact fp
    rw[A];simp
   |true=>
    refine bf e [(21,f),(40,f)] a ?_ (g.aB (w+1) a ?_ ?_ ?_ ?_)
    .simp only[U,i,j,n,a7,eZ.E,bA,ba,a9];and_intros<;>first|exact eZ.U _|omega
    .rw[t];simp only[ur,j7,List.foldl_nil,U.Y,U,i,j,eZ.E,ba,a9];and_intros<;>first|simp|rfl|omega
    .simp
    .grind
    omega
  have F:w=(d.getD b (0,[])).2.length:=y;have o:g9 d b w=dP (d.take (b+1)):=by rw[p,g9];grind[List.length_map]
  refine bf e [(21,m)] a ?_ (g.aD ?_)
  .simp only[U,i,dt];exact fp
  refine cG e a bJ (g.aB (b+1) a ?_ ?_ ?_ ?_)
  .rw[o];simp
  .simp
  .grind
  omega
 obtain rfl:b=c d:=y;rw[c9]at k⊢;refine bf e [(11,m)] a E (g.aD ?_);refine cG e a v (g.aw a ?_);simp[e3,k]
abbrev GP:bK:=df (eX a1) (λa=>eZ.S (e3 a)) λa=>[c a<=4000000,c (dP a)<=100000]
def adC:bL r 135 GP:=.bb λb a=>UX b a.1 a.2
abbrev xq:bK:=ek c8 ez (λa b=>S (e5 a b)) λa b=>[cK a=f,cC b=f]
abbrev Bt:bK:=df ez (λa=>bZ (fA a)) λa=>[cC a=f]
def Mw:bL r 183 Bt:=.bb λb a=>Wn b a
theorem abs(d)(l):c (fB d l)=c d+1:=by
 induction d with
 |nil=>simp[fB]
 |cons e b a=>simp only[fB];split<;>simp[a]
def kl(d:Int)(a:p bE):p cW:=a.foldl (λe b=>fB e (e5 d b,fA b)) []
def Db(i)(ab):c (kl i ab)=c ab:=by
 have d:∀ab b,c (ab.foldl (λe a=>fB e (e5 i a,fA a)) b)=c b+c ab:=by
  intro ab;induction ab with
  |nil=>grind
  |cons a j g=>grind[abs]
 have:=d ab [];rw[gz,cV]at this;exact this
def aaz{ab}(a:e<c ab):kl i (ab.take (e+1))=fB (kl i (ab.take e)) (e5 i (ab.getD e []),fA (ab.getD e [])):=by unfold kl;grind[ia]
abbrev abd(a:Int)(b:p cW):an:=.cells 91 [.c (.int .i64 a),.c (.S m 2 (c b) (bG.fn b))]
def VO(bR i)(ab)(e:cK i=f)(n:∀u∈ab,cC u=f)(z:c ab<=4000000):Y r 136 [S bR,S i,bQ.S ab] [] (fz (kN bR i ab)) []:=by
 refine Y.bp bd func136 rfl rfl rfl λx=>?_;have d:a8 r [(174,xq),(183,Bt),(182,G_)]:=.cons zh (.cons Mw (.cons ad0 .nil));refine cG d a v (g.aN 2 (λb=>b<=c ab) (λb:Nat=>[(1,S i),(2,bQ.S ab),(6,aG 0 0),(7,aG 1 0),(8,S b)]) (λb=>[.cells 91 [.c (.int .i64 0),.c (.S f 0 0 λ_=>[])],abd bR (kl i (ab.take b))]) (λb=>c ab-b) 0 a E a ?_ a y ?_)
 .simp[kl]
 intro b p;by_cases o:b<c ab
 .have j:ab.getD (b:Int).toNat bQ.I=ab.getD b []:=M;have k:cC (ab.getD b [])=f:=n _ M;have s:=aaz (i:=i) o;have l:=Db i (ab.take b);rw[List.length_take]at l;refine bf d [(15,f)] a ?_ (g.aB (b+1) a ?_ ?_ ?_ ?_)
  .simp only[U,j,e,k,a7,bG.E,bA,ba,a9];and_intros<;>first|exact bG.U _|omega
  .simp
  .rw[s];simp only[U.Y,U,j,bG.E,ba,a9];and_intros<;>first|simp|rfl|omega
  .grind
  omega
 obtain rfl:b=c ab:=y;rw[c9];refine bf d [(15,m)] a E (g.aD ?_);refine cG d a v (g.bd () [] ?_ (λw t=>absurd t E));simp[kN,kl]
def Wv(b):Y r 253 [bZ b] [] (bi (cC b)) []:=by
 refine Y.K func253 rfl λi=>?_;have e:a8 r [(24,jF),(98,xi)]:=.cons ks (.cons Mm .nil);by_cases d:1<=c b/\c b<=8
 .refine a_ e [(6,f)] a bX (g.aw a ?_);simp[cC,d.1,d.2]
 refine a_ e [(6,m)] a bX (g.aw a ?_);have:cC b=m:=by simp[cC,<-Bool.decide_and,lB d,sv]
 simp[this]
abbrev G7:bK:=df ez (λa=>bi (cC a)) λ_=>[]
def adV:bL r 253 G7:=.bb λa _=>Wv a
def Wm(a):Y r 211 [bZ a] [] (bZ (fA a)) []:=by
 refine Y.K func211 rfl λd=>?_;have b:a8 r [(253,G7),(183,Bt)]:=.cons adV (.cons Mw .nil);cases u:cC a with
 |true=>exact a_ b [(5,m)] rfl gT (g.aw rfl)
 |false=>exact a_ b [(5,f)] rfl gT (g.aw rfl (by simp[fA,u]))
abbrev G5:bK:=df ez (λa=>bZ (fA a)) λ_=>[]
def adT:bL r 211 G5:=.bb λa _=>Wm a
def aa8(b):c (fA b)<=8:=by
 unfold fA;split
 .rename_i a;simp[cC,cF,bA]at a;grind[Hs]
 simp
def Wk(j):Y r 173 [bZ j] [] (iI (h8 j)) []:=by
 refine Y.K func173 rfl λA=>?_;have C:=A.V 0 a;have p:a8 r [(211,G5)]:=.cons adT .nil;refine aZ a v ?_;have fin:∀k,k<=c j->ff (j.take k)=ff j->(k=0∨ff (j.take k)=j.take k)->j.take k=ff j:=λk d w o=>by
  rcases o with rfl|o
  .exact bJ
  grind
 have e:∀k,k<=c j->j.take k=ff j->h8 j=if c j<=8/\fA (ff j)=j/\k≠0 then h (j.take k)else q:=λk d w=>by
  have D:=aa8 (ff j);have t:k=0↔ff j=[]:=by grind[List.take_eq_nil_iff]
  unfold h8;rw[w];by_cases I:fA (ff j)=j
  .by_cases i:cC (ff j)=f
   .have:k≠0:=λx=>by rw[t.1 x]at i;cases i
    grind
   have x:k=0:=t.2 (by rw[fA,bm i]at I;grind);grind
  grind
 refine g.cl (S2:=Nat) 0 a a (λk=>k<=c j/\j.take k=ff j) (λk=>[(0,bZ j),(4,S k)]) (λ_=>[]) 0 (λk=>k<=c j/\ff (j.take k)=ff j) (λk:Nat=>[(0,bZ j),(4,S k)]) (λ_=>[]) (λk=>k) (c j) a E a v a ⟨by omega,by simp⟩ ?_ ?_
 .rintro du k ⟨d,s⟩;rcases k with _|k
  .refine a6 [(9,m),(15,m)] a E (g.aD ?_);exact du 0 ⟨d,fin 0 d s (.inl a)⟩ a E a v
  have t:=Mg (b:=j) (k:=k) y;have ae:((k:Int)+1-1).toNat=k:=y;by_cases o:j.getD k 0=46
  .refine a6 [(9,f),(15,f)] a ?_ (g.aB k a ?_ v ⟨by omega,?_⟩ y)
   .have I:dj j k=46:=by unfold dj;exact bJ
    exact OQ
   .simp
   grind
  refine a6 [(9,f),(15,m)] a ?_ (g.aD ?_)
  .have I:dj j k≠46:=by unfold dj;intro B;exact o (un.1 M)
   exact OQ
  exact du (k+1) ⟨d,fin _ d s (.inr M)⟩ a E a v
 rintro k ⟨d,z⟩;have F:=e k d z;have u:mo j q (h (k:Int))=ff j:=z▸rfl;have n:((c j:Int)<=8)↔c j<=8:=y;by_cases l:c j<=8
 .by_cases iE:fA (ff j)=j
  .by_cases jE:k=0
   .refine a_ p [(21,m),(29,m),(32,f)] a ?_ (g.aw a ?_)
    .subst jE;simp[U,u,iE];grind
    exact bJ
   refine a_ p [(21,m),(29,m),(32,m)] a ?_ (g.aw a ?_)
   .simp[u,n,l,iE,jE,d]
   exact bJ
  refine a_ p [(21,m),(29,f),(32,f)] a ?_ (g.aw a ?_)
  .simp[u,n,l,iE,d]
  exact bJ
 refine a_ p [(21,f),(29,f),(32,f)] a bX (g.aw a ?_);exact bJ
abbrev Bs:bK:=df ez (λa=>iI (h8 a)) λ_=>[]
def Mv:bL r 173 Bs:=.bb λa _=>Wk a
def WF(i)(l)(a:cK i=f):Y r 130 [S i,BW l] [] (bi (right i l)) []:=by
 refine Y.K func130 rfl λd=>?_;have b:a8 r [(173,Bs),(174,xq)]:=.cons Mv (.cons zh .nil);cases x:h8 l.2 with
 |none=>exact a_ b [(14,m)] rfl oM (g.aw rfl (by simp[right,x]))
 |some e=>exact a_ b [(14,f)] rfl (by simp[x,a,KQ x]) (g.aw rfl (by simp[right,x]))
abbrev Bu:bK:=ek c8 sf (λa b=>bi (right a b)) λa _=>[cK a=f]
def Mx:bL r 130 Bu:=.bl λb d a=>WF b d a
def Va(i):Y r 51 [S i] [] (bi (cK i)) []:=by refine Y.K func51 rfl λd=>?_;have b:a8 r [(24,jF)]:=.cons ks .nil;exact b_ b a v (g.aw a (by simp[cK]))
abbrev sI:bK:=df c8 (λa=>bi (cK a)) λ_=>[]
def v3:bL r 51 sI:=.bb λa _=>Va a
abbrev xn(a:ca):an:=.cells 91 [.c (.int .i64 a.1),.c (ll a)]
def We(i)(b)(k):Y r 213 [S i,fz b,S k] [] (iI (gp i b k)) []:=by
 refine Y.K func213 rfl λx=>?_;have j:a8 r [(51,sI),(130,Bu),(173,Bs)]:=.cons v3 (.cons Mx (.cons Mv .nil));cases b1:cK i with
 |false=>
  refine a_ j [(11,f)] a lv (g.aw a ?_);have:gp i b k=q:=by unfold gp jG;grind
  simp[this]
 |true=>
 have z:=x.fY 1 a 1 a;refine a_ j [(11,m)] a lv (g.aN 1 (λd=>d<=c b.2/\b.2.find? (λl=>l.1==k)=(b.2.drop d).find? (λl=>l.1==k)) (λd:Nat=>[(0,S i),(4,aG 0 0),(2,S k),(8,S d)]) (λ_=>[xn b]) (λd=>c b.2-d) 0 a E a E a ⟨by omega,a⟩ ?_);rintro d ⟨w,e⟩;by_cases s:d<c b.2
 .have A:b.2.getD d bG.I=d9 b d:=rfl;have t:b.2.drop d=d9 b d::b.2.drop (d+1):=Fq;rw[t,List.find?_cons]at e;by_cases o:(d9 b d).1=k
  .rw[show((d9 b d).1==k)=f by grind]at e;cases n:right i (d9 b d)with
   |false=>
    have u:right i (k,(d9 b d).2)=m:=o▸n;refine a_ j [(16,f),(26,f),(34,f)] a dA (g.aX (bT.zero a ?_));have p:gp i b k=q:=by have:=BE (i:=i) (l:=d9 b d) b1;rw[n]at this;simp[gp,e];simp_all
    simp[p]
   |true=>
    have u:right i (k,(d9 b d).2)=f:=o▸n;refine a_ j [(16,f),(26,f),(34,m)] a dA (g.aX (bT.zero a ?_));have p:gp i b k=h8 (d9 b d).2:=by simp[gp,e,jG];unfold right at n;grind
    simp_all
  rw[show((d9 b d).1==k)=m by grind]at e;refine a_ j [(16,f),(26,m)] a ?_ (g.aB (d+1) a E E ⟨s,e⟩ y);simp[-al,A,o,a7,s];omega
 obtain rfl:d=c b.2:=y;refine a_ j [(16,m)] a E (g.aD ?_);refine b_ j a v (g.aw a ?_);simp[gp,e]
abbrev G8:bK:=kb c8 (jx bG) c8 (λa d b=>iI (gp a d b)) λ_ _ _=>[]
def adY:bL r 213 G8:=.c0 λa d b _=>We a d b
theorem Ds(b:Int)(a:ca):h7 b a=(decide (1<=a.1/\a.1<=99)&&cK b&&decide (1<=c a.2/\c a.2<=4)&&(aD (c a.2)).all (h' b a)):=by grind[Dq]
def acL{R:ca}(a:e≠0):h' i R e=(right i (d9 R e)&&decide ((d9 R (e-1)).1<(d9 R e).1)):=by unfold h';grind
def Wh(i:Int)(R:ca):Y r 92 [S i,fz R] [] (bi (h7 i R)) []:=by
 refine Y.K func92 rfl λw=>?_;have d:a8 r [(24,jF),(51,sI),(130,Bu)]:=.cons ks (.cons v3 (.cons Mx .nil));have z:=w.fY 1 a 1 a;rw[Ds];by_cases k:1<=R.1/\R.1<=99
 rotate_left
 .exact a_ d [(10,f),(14,f),(21,f)] a bX (g.aw a bJ)
 cases e:cK i
 .exact a_ d [(10,m),(14,f),(21,f)] a dA (g.aw a)
 by_cases l:1<=c R.2/\c R.2<=4
 rotate_left
 .exact a_ d [(10,m),(14,m),(21,f)] a bJ (g.aw a bw)
 refine a_ d [(10,m),(14,m),(21,m)] a lG ?_;rw[fk k,fk l,fm,fm,fm];refine g.aN 1 (λb=>b<=c R.2/\∀s,s<b->h' i R s=f) (λb:Nat=>[(0,S i),(3,aG 0 0),(5,S b)]) (λ_=>[xn R]) (λb=>c R.2-b) 0 a E a E a ⟨by omega,by omega⟩ ?_;rintro b ⟨t,n⟩;by_cases u:b<c R.2
 .have C:R.2.getD b bG.I=d9 R b:=rfl;cases j:right i (d9 R b)with
  |false=>
   refine a_ d [(26,f),(37,f),(56,f)] a dA (g.aX (bT.zero a ?_));rw[kC u (by simp only[h',j,sv])];simp
  |true=>
   by_cases p:b=0
   .subst p;refine a_ d [(26,f),(37,m),(40,m),(56,m)] a ?_ (g.aB 1 a E E ⟨u,iD n (by simp only[h',j,fm];rfl)⟩ y);exact lG
   have o:R.2.getD (b-1) bG.I=d9 R (b-1):=rfl;have A:=acL (i:=i) (R:=R) p;by_cases x:(d9 R (b-1)).1<(d9 R b).1
   .refine a_ d [(26,f),(37,m),(40,f),(54,m),(56,m)] a ?_ (g.aB (b+1) a E E ⟨u,iD n M⟩ y);simp[-al,C,o,j,e,u,x,a7];omega
   refine a_ d [(26,f),(37,m),(40,f),(54,f),(56,f)] a ?_ (g.aX (bT.zero a ?_))
   .simp[-al,C,o,j,e,u,a7];omega
   exact j0
 obtain rfl:b=c R.2:=y;refine a_ d [(26,m)] a E (g.aD ?_);exact b_ d a v (g.aw a bw)
abbrev G4:bK:=ek c8 (jx bG) (λa b=>bi (h7 a b)) λ_ _=>[]
def adQ:bL r 92 G4:=.bl λa b _=>Wh a b
def og{a:p α}{I:α}(b:e<c a):a.getD e I∈a:=M
def Yn{a:p Int}{b:Int}:a.contains b=!(aD (c a)).all λd=>!(a.getD d 0==b):=by rw[oX,j5,<-p0,fY,Av];grind[List.mem_iff_getElem]
def Ut(d:p Int)(e:Int):Y r 49 [aB.S d,S e] [] (bi (d.contains e)) []:=by
 refine Y.K func49 rfl λl=>?_;have o:=l.S 0 a;refine aZ a v ?_;rw[Yn];refine g.ca (λb=>b<=c d/\∀j,j<b->(!(d.getD j 0==e))=f) (λb:Nat=>[(0,aB.S d),(1,S e),(5,S b)]) (λ_=>[]) (λb=>c d-b) 0 a E a v ⟨by omega,by omega⟩ ?_;rintro b ⟨n,k⟩;by_cases u:b<c d
 .have s:d.getD b aB.I=d.getD b 0:=rfl;by_cases i:d.getD b 0=e
  .refine a6 [(9,f),(17,f)] a ?_ (g.bX (bT.zero a ?_))
   .simp[-al,s,i,u]
   exact j0
  refine a6 [(9,f),(17,m)] a ?_ (g.b5 (b+1) a E a v ⟨u,iD k M⟩ y);simp[-al,s,i,u,a7];omega
 obtain rfl:b=c d:=y;refine a6 [(9,m)] a E (g.bt a a ?_);exact aZ a v (g.aw a dA)
abbrev uK:bK:=ek (eX aB) c8 (λa b=>bi (a.contains b)) λ_ _=>[]
def zg:bL r 49 uK:=.bl λa b _=>Ut a b
def Wt(e:Int)(b:p ca)(i:Int):Y r 175 [S e,a1.S b,S i] [] (iI (dL e b i)) []:=by
 refine Y.K func175 rfl λt=>?_;have w:=t.S 1 a;have l:a8 r [(213,G8)]:=.cons adY .nil;refine b_ l a v (g.ca (λd=>d<=c b/\dL e b i=dL e (b.drop d) i) (λd:Nat=>[(0,S e),(1,a1.S b),(2,S i),(8,S d)]) (λ_=>[]) (λd=>c b-d) 0 a E a v ⟨by omega,a⟩ ?_);rintro d ⟨u,j⟩;by_cases n:d<c b
 .have s:b.drop d=b.getD d (0,[])::b.drop (d+1):=Fq;have o:((b.getD d a1.I).1,bG.af (b.getD d a1.I).2.length (bG.fn (b.getD d a1.I).2))=b.getD d (0,[]):=bJ;rw[s,show dL e (b.getD d (0,[])::b.drop (d+1)) i=_ from List.findSome?_cons]at j;cases k:gp e (b.getD d (0,[])) i with
  |some x=>
   rw[k]at j;refine a_ l [(14,f),(27,f)] a ?_ (g.bX (bT.zero a ?_))
   .simp[-al,o,k,n,bG.U]
   simp_all
  |none=>
   rw[k]at j;refine a_ l [(14,f),(27,m)] a ?_ (g.b5 (d+1) a E a v ⟨n,j⟩ y);simp[-al,o,k,n,a7,bG.U];omega
 obtain rfl:d=c b:=y;refine a6 [(14,m)] a E (g.bt a a ?_);exact aZ a v (g.aw a (by rw[j,ss];simp[dL]))
abbrev G6:bK:=kb c8 (eX a1) c8 (λb a d=>iI (dL b a d)) λ_ _ _=>[]
def adU:bL r 175 G6:=.c0 λb a d _=>Wt b a d
def WG(x j):Y r 214 [bQ.S x,bQ.S j] [] (bi (x==j)) []:=by
 refine Y.K func214 rfl λl=>?_;have u:=l.S 0 a;by_cases s:c x=c j
 rotate_left
 .have:(x==j)=m:=eU.2 M;exact a6 [(10,f)] a bX (g.aw a (by simp[this]))
 refine a6 [(10,m)] a bX (g.ca (λb=>b<=c x/\∀d,d<b->x.getD d []=j.getD d []) (λb:Nat=>[(0,bQ.S x),(1,bQ.S j),(5,S b)]) (λ_=>[]) (λb=>c x-b) 0 a E a v ⟨by omega,by omega⟩ ?_);rintro b ⟨o,t⟩;by_cases n:b<c x
 .have i:∀k:p bE,k.getD b bQ.I=k.getD b []:=λ_=>rfl;by_cases e:x.getD b []=j.getD b []
  .refine a6 [(14,f),(25,m)] a ?_ (g.b5 (b+1) a E a v ⟨n,λd w=>?_⟩ y)
   .simp[-al,i,e,a7];omega
   grind
  refine a6 [(14,f),(25,f)] a ?_ (g.bX (bT.zero a ?_))
  .simp[-al,i,e];omega
  exact ES
 obtain rfl:b=c x:=y;have:x=j:=rf s λd e z=>by grind
 refine a6 [(14,m)] a E (g.bt a a ?_);exact aZ a v (g.aw a (by simp[this]))
def ad4:bL r 214 xm:=.bl λa b _=>WG a b
def KY(o):∀d e b,b∈jR o d e->c b<=8
 |0,_,b,a=>by exact bJ
 |d+1,e,b,a=>by
  simp only[jR]at a;split at a
  .rename_i g;rcases fl.1 a with rfl|a
   .grind [sL]
   exact KY o d _ b a
  grind
def SG{d}{a}(e:a∈d)(g:8<c a):jH d=q:=by unfold jH;rw[bm];intro b;simp[cF,hd]at b;have:=KY d.flatten (c d.flatten) 0 a (by rw[show jR d.flatten (c d.flatten) 0=d from b.2];exact e);omega
def X0(a:p bE)(e):(a.take e).flatten.length<=c a.flatten:=Fv
def SF{d:p bE}(b:40<(d.take e).flatten.length):jH d=q:=by have:=X0 d e;unfold jH;rw[bm];intro a;simp only[cF,fC,bA]at a;omega
def U_(d):Y r 176 [bQ.S d] [] (iI (jH d)) []:=by
 refine Y.K func176 rfl λp=>?_;have t:=p.S 0 a;have b:a8 r [(57,xh),(177,xk),(214,xm)]:=.cons Ml (.cons Ed (.cons ad4 .nil));refine b_ b a v (g.ca (λe=>e<=c d/\(d.take e).flatten.length<=48) (λe:Nat=>[(0,bQ.S d),(4,bZ (d.take e).flatten),(5,S e)]) (λ_=>[]) (λe=>c d-e) 0 a E a v ⟨by omega,by simp⟩ ?_);rintro e ⟨o,l⟩;by_cases k:e<c d
 .have j:d.getD e bQ.I=d.getD e []:=rfl;have w:(d.take (e+1)).flatten=(d.take e).flatten++d.getD e []:=ib;by_cases i:c (d.getD e [])<=8
  .by_cases s:(d.take e).flatten.length<=40
   .refine a_ b [(9,f),(18,m),(22,m)] a ?_ (g.b5 (e+1) a ?_ a v ⟨k,by grind⟩ y)
    .simp[-al,-List.length_flatten,j,a7];omega
    simp_all
   refine a_ b [(9,f),(18,m),(22,f)] a ?_ (g.bX (bT.zero a ?_))
   .simp[-al,-List.length_flatten,j];omega
   simp[SF (d:=d) (e:=e) y]
  refine a_ b [(9,f),(18,f),(22,f)] a ?_ (g.bX (bT.zero a ?_))
  .simp[-al,j];omega
  simp[U,U.Y,SG (og (I:=[]) k) y]
 obtain rfl:e=c d:=y;rw[c9]at l⊢;refine a_ b [(9,m)] a E (g.bt a a ?_);have n:=bQ.E d;cases i:fC d.flatten with
 |false=>exact a_ b [(32,f),(38,f)] rfl (by simp[i]) (g.aw rfl (by simp[jH,i]))
 |true=>
  have u:dZ d.flatten=f:=by simp[fC,cF]at i;exact i.2
  cases s:(cx d.flatten==d)with
  |false=>
   refine a_ b [(32,m),(38,f)] a ?_ (g.aw a (by simp[jH,s]));exact bJ
  |true=>
   refine a_ b [(32,m),(38,m)] a ?_ (g.aw a (by simp[jH,i,s]));exact bJ
abbrev GS:bK:=df (eX bQ) (λa=>iI (jH a)) λ_=>[]
def adG:bL r 176 GS:=.bb λa _=>U_ a
abbrev y8(a:eE):an:=.cells 106 [.c (.int .i64 a.1),.c (.S m 2 (c a.2) (cu.fn a.2))]
abbrev nl(d:Int)(b:p ca)(a:p Int):p bE:=a.map λe=>(dL d b e).getD []
def Ym{ab}{a}(b:w<c a):nl i ab (a.take (w+1))=nl i ab (a.take w)++[(dL i ab (a.getD w 0)).getD []]:=ib
def XS{ab}{a}(d:w<c a)(b:dL i ab (a.getD w 0)=q):h2 i ab a=q:=Nr
def XT{ab}{a}(d:∀b,b<c a->(dL i ab (a.getD b 0)).isSome=f):h2 i ab a=h (nl i ab a):=by unfold h2;rw[bs];grind[List.mem_iff_getElem]
def W2(i)(b)(ab)(aa:c b.2<=4000000)(T:∀e∈b.2,c e.2<=4000000):
  Y r 131 [S i,iJ b,a1.S ab] [] (rX ((fc i b ab).getD []) (fc i b ab).isSome) []:=by
 refine Y.K func131 rfl λH=>?_;have o:a8 r [(51,sI),(175,G6),(176,GS),(31,sG)]:=.cons v3 (.cons adU (.cons adG (.cons zf .nil)));cases b1:cK i with
 |false=>
  refine a_ o [(19,f)] a lv (g.aw a ?_);simp[fc,b1]
 |true=>
 refine a_ o [(19,m),(1000004,f)] a lv (g.bP 8 46 2 a a ?_);refine b_ o a v (g.aN 2 (λn=>n<=c b.2/\∀l,l<n->(hh i ab (b.2.getD l ([],[]))).isSome=f) (λn:Nat=>[(0,S i),(2,a1.S ab),(4,aG 0 0),(8,.q (.aq (.r 1 2 (c (fH i ab (b.2.take n))) (bD.fn (fH i ab (b.2.take n)))))),(9,S n)]) (λn=>[y8 b,.r 46 2 (c (fH i ab (b.2.take n))) (bD.fn (fH i ab (b.2.take n)))]) (λn=>c b.2-n) 0 a z1 a z1 a ⟨by omega,by omega⟩ ?_);rintro n ⟨V,N⟩;by_cases w:n<c b.2
 .have F:=T _ (og (I:=([],[])) w);have ae:=Cx (i:=i) (ab:=ab) w;have X:c (fH i ab (b.2.take n))=n:=by simp[fH];omega
  have j:b.2.getD (n:Int).toNat cu.I=b.2.getD n ([],[]):=M;have C:=D0 (i:=i) (ab:=ab) w;generalize z:b.2.getD n ([],[])=e at F ae j C;generalize fH i ab (b.2.take n)=p at *;refine a_ o [(25,f),(1000008,f)] a bX (g.bP 10 9 1 a a ?_);refine b_ o a v (g.aN 3 (λl=>l<=c e.2/\∀x,x<l->(dL i ab (e.2.getD x 0)).isSome=f) (λl:Nat=>[(0,S i),(2,a1.S ab),(4,aG 0 0),(8,.q (.aq (.r 1 2 (c p) (bD.fn p)))),(9,S n),(10,.q (.aq (.r 2 1 (c (nl i ab (e.2.take l))) (bQ.fn (nl i ab (e.2.take l)))))),(11,S l)]) (λl=>[y8 b,.r 46 2 (c p) (bD.fn p),.r 9 1 (c (nl i ab (e.2.take l))) (bQ.fn (nl i ab (e.2.take l)))]) (λl=>c e.2-l) 0 a E a E a ⟨by omega,by omega⟩ ?_);rintro l ⟨ad,Z⟩;by_cases D:l<c e.2
  .have s:e.2.getD (l:Int).toNat aB.I=e.2.getD l 0:=M;cases A:dL i ab (e.2.getD l 0)with
   |none=>
    have u:hh i ab e=q:=by simp[hh,XS D A]
    refine a_ o [(37,f),(56,f)] a ?_ (g.aX (g.dK (bT.zero a ?_)))
    .simp only[U,j,s,A,a1.E,a1.U];grind
    rw[C u];simp
   |some x=>
    have d:=Ym (i:=i) (ab:=ab) D;rw[A]at d;have Q:c (nl i ab (e.2.take l))=l:=M;have t:=bQ.a0 (nl i ab (e.2.take l)) x;refine a_ o [(37,f),(56,m)] a ?_ (g.aB (l+1) a ?_ ?_ ⟨D,λW R=>?_⟩ y)
    .simp only[U,j,s,A,a1.E,a1.U,Q,a7,show s3.bytes=16 from a];grind
    .exact Pz
    .exact Pz
    grind
  obtain rfl:l=c e.2:=y;have J:=XT Z;rw[c9];have Q:c (nl i ab e.2)=c e.2:=E;refine a_ o [(37,m)] a (by simp only[U,j];simp[w]) (g.aD ?_);cases k:jH (nl i ab e.2)with
  |none=>
   have u:hh i ab e=q:=by simp[hh,J,k]
   refine a_ o [(68,f)] a ?_ (g.aX (bT.zero a ?_))
   .simp only[U,bQ.E,bQ.U,k];simp
   rw[C u];simp
  |some K=>
   have u:hh i ab e=h (e.1,K):=by simp[hh,J,k]
   rw[u]at ae;have O:=bD.a0 p (e.1,K);refine a_ o [(68,m)] a ?_ (g.aB (n+1) a ?_ ?_ ⟨w,λW R=>?_⟩ y)
   .simp only[U,j,bQ.E,bQ.U,k,X,a7,show qt.bytes=32 from a];grind
   .exact P0
   .exact P0
   grind
 obtain rfl:n=c b.2:=y;rw[c9];have G:b.2.all (λe=>(hh i ab e).isSome)=f:=List.all_eq_true.2 λe F=>by grind[List.mem_iff_getElem]
 refine a_ o [(25,m)] a E (g.aD ?_);cases B:dR (fH i ab b.2)with
 |false=>
  refine a_ o [(83,f)] a ?_ (g.aw a ?_)
  .simp[bD.E,bD.U,B]
  simp[fc,B]
 |true=>
  refine a_ o [(83,m)] a ?_ (g.aw a ?_)
  .simp[bD.E,bD.U,B]
  simp[fc,B,b1,G]
abbrev Hf:bK:=kb c8 (jx cu) (eX a1) (λd b a=>rX ((fc d b a).getD []) (fc d b a).isSome) λ_ b _=>[c b.2<=4000000,∀e∈b.2,c e.2<=4000000]
def ad8:bL r 131 Hf:=.c0 λd e a b=>W2 d e a b.1 b.2
abbrev Ae:=Int×Int
def ht(a:Ae):Bool:=decide (1<=a.1/\a.1<=2)&&decide (1<=a.2/\a.2<=20)
def g6(a:p Ae):Bool:=(aD (c a)).all (λb=>ht (a.getD b (0,0)))&&decide (c a<=9)
abbrev BV(a:Ae):z:=.q (.agg [.c (.int .i64 a.1),.c (.int .i64 a.2)])
def UB(b):Y r 132 [BV b] [] (bi (ht b)) []:=by
 refine Y.K func132 rfl λi=>?_;have e:a8 r [(24,jF)]:=.cons ks .nil;by_cases d:1<=b.1/\b.1<=2
 .exact a_ e [(6,f)] a (by simp[d]) (g.aw a (by simp[ht,d]))
 exact a_ e [(6,m)] a bX (g.aw a (by simp only[U,ht,lB d];simp))
def VL(d):Y r 94 [a2.S d] [] (bi (g6 d)) []:=by
 refine Y.K func94 rfl λn=>?_;have s:=n.S 0 a;have i:a8 r [(132,df pW (λe=>bi (ht e)) λ_=>[])]:=.cons (.bb λe _=>UB e) .nil;refine b_ i a v ?_;unfold g6;refine g.ca (λb=>b<=c d/\∀l,l<b->ht (d.getD l (0,0))=f) (λb:Nat=>[(0,a2.S d),(3,S b)]) (λ_=>[]) (λb=>c d-b) 0 a E a v ⟨by omega,by omega⟩ ?_;rintro b ⟨p,k⟩;by_cases e:b<c d
 .have o:d.getD b a2.I=d.getD b (0,0):=rfl;cases j:ht (d.getD b (0,0))with
  |false=>
   refine a_ i [(7,f),(15,f)] a dA (g.bX (bT.zero a ?_));rw[kC e j];simp
  |true=>
   refine a_ i [(7,f),(15,m)] a ?_ (g.b5 (b+1) a E a v ⟨e,iD k j⟩ y);simp[-al,o,j,e,a7];omega
 obtain rfl:b=c d:=y;refine a_ i [(7,m)] a E (g.bt a a ?_);exact b_ i a v (g.aw a (by rw[fY.2 k];simp;omega))
abbrev n3:bK:=df (eX a2) (λa=>bi (g6 a)) λ_=>[]
def Mr:bL r 94 n3:=.bb λa _=>VL a
def dg(a:p ca):p Int:=a.flatMap λb=>b.2.map (·.1)
def j_(d:α->Int)(b:α)(e:p α)(a:Nat):Bool:=a==0||decide (d (e.getD (a-1) b)<d (e.getD a b))
def nC(d:Int)(a:p ca)(b:Nat):Bool:=h7 d (a.getD b (0,[]))&&j_ (·.1) (0,[]) a b
def lo(d:Int)(a:cz)(b:Nat):Bool:=decide (1<=(a.2.1.getD b (0,[])).1/\(a.2.1.getD b (0,[])).1<=20)&&j_ (·.1) (0,[]) a.2.1 b&&(fc d (a.2.1.getD b (0,[])) a.1).isSome
def hS(b:Int)(a:cz):Bool:=(aD (c a.1)).all (nC b a.1)&&decide (dg a.1).Nodup&&(aD (c a.2.1)).all (lo b a)&&cK b&&g6 a.2.2&&decide (c a.1<=20)
def Kn{ab}(a:e<c ab):dg (ab.take (e+1))=dg (ab.take e)++(ab.getD e (0,[])).2.map (·.1):=by rw[ia a (0,[])];simp[dg]
def aaD{ab}(a:¬(dg (ab.take e)).Nodup):¬(dg ab).Nodup:=λb=>a (by
 have:dg ab=dg (ab.take e)++dg (ab.drop e):=Ra
 grind)
abbrev oG(a:cz):an:=.cells 27 [.c (.S m 2 (c a.1) (a1.fn a.1)),.c (.S m 2 (c a.2.1) (bj.fn a.2.1)),.c (.S m 2 (c a.2.2) (a2.fn a.2.2))]
def Us(i)(b)(l)(j:c l.2<=4000000)(n:∀e∈l.2,c e.2<=4000000):Y r 93 [S i,b9 b,iJ l] [] (bi (fc i l b.1).isSome) []:=by
 refine Y.K func93 rfl λk=>?_;have d:a8 r [(131,Hf)]:=.cons ad8 .nil;have o:(l.1,cu.af (c l.2) (cu.fn l.2))=l:=by rw[cu.E]
 refine b_ d a bJ (g.aw a ?_);simp[cu.E,a1.E]
abbrev GN:bK:=kb c8 o1 (jx cu) (λb d a=>bi (fc b a d.1).isSome) λ_ _ a=>[c a.2<=4000000,∀e∈a.2,c e.2<=4000000]
def adz:bL r 93 GN:=.c0 λb d e a=>Us b d e a.1 a.2
def p6{ae:α->Int}{I}{d}(a:e≠0):j_ ae I d e=decide (ae (d.getD (e-1) I)<ae (d.getD e I)):=by unfold j_;grind
def Xa(i)(b)(L:ln b)(P:c b.1<=4000000)(ad:c b.2.1<=4000000):Y r 50 [S i,b9 b] [] (bi (hS i b)) []:=by
 refine Y.K func50 rfl λaM=>?_;have p:a8 r [(92,G4),(49,uK),(24,jF),(93,GN),(51,sI),(94,n3)]:=.cons adQ (.cons zg (.cons ks (.cons adz (.cons v3 (.cons Mr .nil)))));refine a_ p [(1000002,f)] a v (g.bP 5 3 1 a a ?_);refine b_ p a v ?_;unfold hS;refine g.aN 2 (λe=>e<=c b.1/\(∀l,l<e->nC i b.1 l=f)/\(dg (b.1.take e)).Nodup/\c (dg (b.1.take e))<=4*e) (λe:Nat=>[(0,S i),(3,aG 0 0),(5,.q (.aq (.r 1 1 (c (dg (b.1.take e))) (aB.fn (dg (b.1.take e)))))),(6,S e)]) (λe=>[oG b,.r 3 1 (c (dg (b.1.take e))) (aB.fn (dg (b.1.take e)))]) (λe=>c b.1-e) 0 a EM a EM a ⟨by omega,by omega,by simp[dg],by simp[dg]⟩ ?_;rintro e ⟨K,B,T,Z⟩;by_cases u:e<c b.1
 .have R:=Kn u;have N:=aaD (ab:=b.1) (e:=e+1);have A:b.1.getD e a1.I=b.1.getD e (0,[]):=rfl;have k:b.1.getD (e-1) a1.I=b.1.getD (e-1) (0,[]):=rfl;have s:nC i b.1 e=(h7 i (b.1.getD e (0,[]))&&j_ (·.1) (0,[]) b.1 e):=rfl;have W:=p6 (ae:=λj:ca=>j.1) (I:=(0,[])) (d:=b.1) (e:=e);generalize z:b.1.getD e (0,[])=j at *;generalize b.1.getD (e-1) (0,[])=w at *;cases o:h7 i j with
  |false=>
   rw[o,sv]at s;refine a_ p [(14,f),(25,f),(44,f)] a PF (g.aX (bT.zero a ?_));rw[kC u s];simp
  |true=>
   have ag:c j.2<=4:=by grind[Ds]
   rw[o,fm]at s;cases C:j_ (·.1) (0,[]) b.1 e with
   |false=>
    have x:e≠0:=by rintro rfl;cases C
    have J:¬w.1<j.1:=M;refine a_ p [(14,f),(25,m),(28,f),(42,f),(44,f)] a Qb (g.aX (bT.zero a ?_));rw[kC u (s.trans C)];simp
   |true=>
   rw[C]at s;apply g.cj [(0,S i),(3,aG 0 0),(5,.q (.aq (.r 1 1 (c (dg (b.1.take e))) (aB.fn (dg (b.1.take e)))))),(6,S e),(7,S 0)] [oG b,.r 3 1 (c (dg (b.1.take e))) (aB.fn (dg (b.1.take e)))]
   .intro aa;by_cases x:e=0
    .subst x;refine a_ p [(14,f),(25,m),(28,m),(44,m)] a PF (aa _ _ a ?_);simp
    have J:w.1<j.1:=M;refine a_ p [(14,f),(25,m),(28,f),(42,m),(44,m)] a Qb (aa _ _ a ?_);simp
   generalize dg (b.1.take e)=n at *;refine g.aN 2 (λl=>l<=c j.2/\(n++(j.2.take l).map (·.1)).Nodup) (λl:Nat=>[(0,S i),(3,aG 0 0),(5,.q (.aq (.r 1 1 (c (n++(j.2.take l).map (·.1))) (aB.fn (n++(j.2.take l).map (·.1)))))),(6,S e),(7,S l)]) (λl=>[oG b,.r 3 1 (c (n++(j.2.take l).map (·.1))) (aB.fn (n++(j.2.take l).map (·.1)))]) (λl=>c j.2-l) 0 a E a E a ⟨by omega,by grind⟩ ?_;rintro l ⟨ah,G⟩;by_cases t:l<c j.2
   .have O:j.2.getD l bG.I=d9 j l:=rfl;have cL:n++(j.2.take (l+1)).map (·.1)=(n++(j.2.take l).map (·.1))++[(d9 j l).1]:=ib;have V:c (n++(j.2.take l).map (·.1))=c n+l:=M;generalize n++(j.2.take l).map (·.1)=D at *;cases Q:D.contains (d9 j l).1 with
    |true=>
     refine a_ p [(53,f),(67,f)] a ?_ (g.aX (g.dK (bT.zero a ?_)))
     .simp[-al,-List.contains_eq_mem,A,O,u,t,Q,aB.E,aB.U]
     .have bB:¬(dg b.1).Nodup:=N (by
       have ai:n++j.2.map (·.1)=(n++(j.2.take (l+1)).map (·.1))++(j.2.drop (l+1)).map (·.1):=E
       grind)
      simp[bB]
    |false=>
     have H:=aB.a0 D (d9 j l).1;have X:aB.af (c n+l) (aB.fn D)=D:=by rw[<-V];exact aB.E D
     refine a_ p [(53,f),(67,m)] a ?_ (g.aB (l+1) a ?_ ?_ ⟨t,?_⟩ y)
     .simp[-al,-List.contains_eq_mem,A,O,u,t,Q,aB.E,aB.U,V,X,a7,show ec.bytes=8 from a];omega
     .exact Pl
     .exact Pl
     grind
   obtain rfl:l=c j.2:=y;rw[c9]at G⊢;refine a_ p [(53,m)] a ?_ (g.aD ?_)
   .simp[-al,A,u]
   refine b_ p a bJ (g.aB (e+1) a ?_ ?_ ⟨u,iD B s,by grind,by grind⟩ y)
   .rw[R];simp
   rw[R];simp
 obtain rfl:e=c b.1:=y;rw[c9]at T⊢;refine a_ p [(14,m)] a E (g.aD ?_);refine b_ p a v ?_;rw[fY.2 B,fk T,fm,fm];generalize dg b.1=n;refine g.aN 2 (λe=>e<=c b.2.1/\(∀l,l<e->lo i b l=f)) (λe:Nat=>[(0,S i),(3,aG 0 0),(8,S e)]) (λ_=>[oG b,.r 3 1 (c n) (aB.fn n)]) (λe=>c b.2.1-e) 0 a E a E a ⟨by omega,by omega⟩ ?_;rintro e ⟨K,B⟩;by_cases u:e<c b.2.1
 .have A:b.2.1.getD e bj.I=b.2.1.getD e (0,[]):=rfl;have k:b.2.1.getD (e-1) bj.I=b.2.1.getD (e-1) (0,[]):=rfl;have bc:=L _ (og (I:=(0,[])) u);have s:lo i b e=(decide (1<=(b.2.1.getD e (0,[])).1/\(b.2.1.getD e (0,[])).1<=20)&&j_ (·.1) (0,[]) b.2.1 e&&(fc i (b.2.1.getD e (0,[])) b.1).isSome):=rfl;have W:=p6 (ae:=λj:eE=>j.1) (I:=(0,[])) (d:=b.2.1) (e:=e);generalize z:b.2.1.getD e (0,[])=j at *;generalize b.2.1.getD (e-1) (0,[])=w at *;by_cases gZ:1<=j.1/\j.1<=20
  rotate_left
  .refine a_ p [(85,f),(96,f),(116,f),(126,f)] a ?_ (g.aX (bT.zero a ?_))
   .simp[-al,A,u];omega
   exact j0
  cases C:j_ (·.1) (0,[]) b.2.1 e with
  |false=>
   have x:e≠0:=by rintro rfl;cases C
   have J:¬w.1<j.1:=M;refine a_ p [(85,f),(96,m),(99,f),(113,f),(116,f),(126,f)] a ?_ (g.aX (bT.zero a ?_))
   .simp[-al,A,k,u,gZ,a7];omega
   exact j0
  |true=>
   rw[fk gZ,C,fm,fm]at s;cases t:(fc i j b.1).isSome with
   |false=>
    by_cases x:e=0
    .subst x;refine a_ p [(85,f),(96,m),(99,m),(116,m),(126,f)] a ?_ (g.aX (bT.zero a ?_))
     .simp[-al,A,u,gZ,cu.E,cu.U,a1.E,a1.U,bj.U,a2.U,t,bc.1];grind
     rw[kC u (s.trans t)];simp
    have J:w.1<j.1:=M;refine a_ p [(85,f),(96,m),(99,f),(113,m),(116,m),(126,f)] a Pt (g.aX (bT.zero a ?_));rw[kC u (s.trans t)];simp
   |true=>
    rw[t]at s;by_cases x:e=0
    .subst x;refine a_ p [(85,f),(96,m),(99,m),(116,m),(126,m)] a ?_ (g.aB 1 a E E ⟨u,iD B s⟩ y);simp[-al,A,u,gZ,a7,cu.E,cu.U,a1.E,a1.U,bj.U,a2.U,t,bc.1];grind
    have J:w.1<j.1:=M;refine a_ p [(85,f),(96,m),(99,f),(113,m),(116,m),(126,m)] a ?_ (g.aB (e+1) a E E ⟨u,iD B s⟩ y);exact Pt
 obtain rfl:e=c b.2.1:=y;refine a_ p [(85,m)] a E (g.aD ?_);rw[fY.2 B,fm];cases b1:cK i
 .exact a_ p [(129,m),(134,m)] a lv (g.aw a)
 cases F:g6 b.2.2
 .exact a_ p [(129,f),(134,m)] a Nt (g.aw a)
 exact a_ p [(129,f),(134,f)] a Nt (g.aw a bX)
abbrev Bw:bK:=ek c8 o1 (λb a=>bi (hS b a)) λ_ a=>[ln a,c a.1<=4000000,c a.2.1<=4000000]
def MA:bL r 50 Bw:=.bl λb d a=>Xa b d a.1 a.2.1 a.2.2
def gb(d:Int)(a:p Int×Bool)(b:Int):p Int×Bool:=
 if a.2=f then(if b=d then a else(a.1++[b],f))else if d<=b then(if b=d then(a.1++[d],f)else(a.1++[d,b],f))else(a.1++[b],m)
abbrev ft(d:Int)(b:p Int)(a:Nat):p Int×Bool:=(b.take a).foldl (gb d) ([],m)
def e4(b:p Int)(a:Int):p Int:=if(b.foldl (gb a) ([],m)).2=f then(b.foldl (gb a) ([],m)).1 else(b.foldl (gb a) ([],m)).1++[a]
def wY{k}{d}(a:e<c d):ft k d (e+1)=gb k (ft k d e) (d.getD e 0):=ib
def wX(k)(d):∀a,a<=c d->(ft k d a).1.length+(if(ft k d a).2=f then 0 else 1)<=a+1
 |0,_=>by simp[ft]
 |a+1,g=>by have:=wX k d a y;rw[wY y];generalize ft k d a=b at *;obtain⟨b,e⟩:=b;unfold gb;grind
theorem Z1(d)(k):c (e4 d k)<=c d+1:=by
 have:=wX k d (c d) (bC _);simp[ft,c9]at this;unfold e4;split at this<;>rename_i a
 .grind
 grind
def ae3{e:Type}(a:cY e)(d)(l X):bt (c d+1+1) (ce (c d+1) (ce (c d) (a.fn d) λb=>[a.a8 l].getD b []) λb=>[a.a8 X].getD b []) (a.fn (d++[l,X])):=a.eW d l X
def Tg(d)(k)(B:c d<=100000000):Y r 91 [aB.S d,S k] [] (aB.S (e4 d k)) []:=by
 refine Y.K func91 rfl λA=>?_;refine a6 [(1000002,f)] a v (g.bP 5 3 1 a a ?_);refine aZ a v (g.aN 1 (λb=>b<=c d) (λb:Nat=>[(0,aB.S d),(1,S k),(5,.q (.aq (.r 0 1 (ft k d b).1.length (aB.fn (ft k d b).1)))),(6,bi (ft k d b).2),(7,S b)]) (λb=>[.r 3 1 (ft k d b).1.length (aB.fn (ft k d b).1)]) (λb=>c d-b) 0 a Nu a Nu a y ?_);intro b p;have w:=wX k d b p;by_cases j:b<c d
 .have s:=wY (k:=k) j;have I:d.getD (b:Int).toNat aB.I=d.getD b 0:=dA;generalize d.getD b 0=X at *;generalize ft k d b=e at *;obtain⟨e,n⟩:=e;have ae:=λX=>aB.a0 e X;have t:=λx X=>aB.eW e x X;have z:(c e+1+1)*8<=140737488355328:=M;have fin:∀o,ft k d (b+1)=o->True:=λ_ _=>trivial;have l:c d-(b+1)<c d-b:=y;by_cases i:X=k
  .cases n with
   |true=>
    rw[show gb k (e,f) X=(e,f) by simp[gb,i]]at s;refine a6 [(12,f),(34,m)] a ?_ (g.aB (b+1) a ?_ ?_ j l)
    .simp only[U,I,i,a7];simp;omega
    .rw[s];simp
    rw[s];simp
   |false=>
    rw[show gb k (e,m) X=(e++[k],f) by simp[gb,i]]at s;refine a6 [(12,f),(24,f),(34,m)] a ?_ (g.aB (b+1) a ?_ ?_ j l)
    .simp only[U,I,i,a7,show ec.bytes=8 from a];simp;omega
    .exact Py
    exact Py
  cases n with
  |true=>
   rw[show gb k (e,f) X=(e++[X],f) by simp[gb,i]]at s;refine a6 [(12,f),(34,f)] a Ow (g.aB (b+1) a zN ?_ j l);exact zN
  |false=>
   by_cases u:k<=X
   .rw[show gb k (e,m) X=(e++[k,X],f) by simp[gb,i,u]]at s;refine a6 [(12,f),(24,f),(34,f)] a ?_ (g.aB (b+1) a ?_ ?_ j l)
    .simp only[U,I,a7,show ec.bytes=8 from a];simp[i,u];omega
    .exact NQ
    exact NQ
   rw[show gb k (e,m) X=(e++[X],m) by simp[gb,u]]at s;refine a6 [(12,f),(24,m),(34,f)] a Ow (g.aB (b+1) a zN ?_ j l);exact zN
 obtain rfl:b=c d:=y;unfold e4;simp[ft,c9]at w⊢;generalize d.foldl (gb k) ([],m)=e at *;obtain⟨e,n⟩:=e;have ae:=aB.a0 e k;refine a6 [(12,m)] a E (g.aD ?_);cases n with
 |true=>exact aZ rfl E (g.aw rfl)
 |false=>
  refine aZ a ?_ (g.aw a ?_)
  .simp only[U,show ec.bytes=8 from a];simp at w⊢;omega
  simp[U,j6,dh,dm,gU];and_intros<;>first|exact ae|trivial
abbrev xj:bK:=ek (eX aB) c8 (λa b=>aB.S (e4 a b)) λa _=>[c a<=100000000]
def Ec:bL r 91 xj:=.bl λb d a=>Tg b d a
theorem qm(b):∀a:p Int,c (a.foldl e4 b)<=c b+c a
 |[]=>by simp
 |d::a=>by have:=qm (e4 b d) a;grind[Z1]
def x'{a:Type}(b:a->Int->a)(e:a){d}(g:w<c d):(d.take (w+1)).foldl b e=b ((d.take w).foldl b e) (d.getD w 0):=ib
def gF(a:p mZ):p Int:=(d_ a).foldl e4 []
theorem tg(d):c (gF d)<=c (d_ d):=by
 have:=qm [] (d_ d)
 rwa [gz,cV]at this
def WY(b)(I:c b.2<=4000000)(F:c (d_ b.2)<=4000000):Y r 90 [iJ b] [] (aB.S (gF b.2)) []:=by
 refine Y.K func90 rfl λB=>?_;have j:a8 r [(91,xj)]:=.cons Ec .nil;refine b_ j a v (g.aN 1 (λe=>e<=c b.2) (λe:Nat=>[(1,aG 0 0),(3,aB.S (gF (b.2.take e))),(4,S e)]) (λ_=>[y8 b]) (λe=>c b.2-e) 0 a (by simp[gF,d_]) a E a y ?_);intro e x;by_cases u:e<c b.2
 .have d:b.2.getD e cu.I=b.2.getD e ([],[]):=rfl;have o:=Kk u;have z:=Kl b.2 (e+1);have D:=tg (b.2.take e);have A:gF (b.2.take (e+1))=(b.2.getD e ([],[])).2.foldl e4 (gF (b.2.take e)):=by simp[gF,o,ur]
  rw[o,dm]at z;generalize b.2.getD e ([],[])=k at *;generalize gF (b.2.take e)=l at *;refine a_ j [(11,f)] a gT (g.aN 1 (λi=>i<=c k.2) (λi:Nat=>[(1,aG 0 0),(3,aB.S ((k.2.take i).foldl e4 l)),(4,S e),(5,S i)]) (λ_=>[y8 b]) (λi=>c k.2-i) 0 a E a E a y ?_);intro i C;by_cases n:i<c k.2
  .have s:k.2.getD i aB.I=k.2.getD i 0:=rfl;have t:=x' e4 l n;have w:=qm l (k.2.take i);rw[List.length_take]at w;generalize(k.2.take i).foldl e4 l=i7 at *;have p:=aB.E i7;refine a_ j [(22,f)] a ?_ (g.aB (i+1) a ?_ ?_ n y)
   .simp[-al,d,s,u,n,p,aB.U,a7];omega
   .rw[t];simp[-al,d,s,p]
   simp
  obtain rfl:i=c k.2:=y;rw[c9,<-A];refine a_ j [(22,m)] a dA (g.aD ?_);exact PO
 obtain rfl:e=c b.2:=y;rw[c9];refine a_ j [(11,m)] a E (g.aD ?_);exact b_ j a v (g.aw a)
abbrev Bq:bK:=df (jx cu) (λa=>aB.S (gF a.2)) λa=>[c a.2<=4000000,c (d_ a.2)<=4000000]
def Mt:bL r 90 Bq:=.bb λb a=>WY b a.1 a.2
def hf(a:p eE):p Int:=a.flatMap λb=>d_ b.2
def h5(b:p eE):p Int:=b.foldl (λa d=>(gF d.2).foldl e4 a) []
theorem AH{d}(a:e<c d):hf (d.take (e+1))=hf (d.take e)++d_ (d.getD e (0,[])).2:=by rw[ia a (0,[])];simp[hf]
def F3(d)(e):c (hf (d.take e))<=c (hf d):=by
 have a:hf d=hf (d.take e)++hf (d.drop e):=by unfold hf;grind[List.take_append_drop]
 grind
theorem J_{d}(a:e<c d):h5 (d.take (e+1))=(gF (d.getD e (0,[])).2).foldl e4 (h5 (d.take e)):=by unfold h5;grind[ia]
def yv(d):∀a,a<=c d->c (h5 (d.take a))<=c (hf (d.take a))
 |0,_=>by simp[h5]
 |a+1,e=>by have b:=yv d a y;grind[qm,tg,J_,AH]
def VR(b)(p:ln b)(N:c b.2.1<=4000000)(O:c (hf b.2.1)<=4000000):Y r 48 [b9 b] [] (aB.S (h5 b.2.1)) []:=by
 refine Y.K func48 rfl λJ=>?_;have j:a8 r [(91,xj),(90,Bq)]:=.cons Ec (.cons Mt .nil);refine b_ j a v (g.aN 1 (λe=>e<=c b.2.1) (λe:Nat=>[(1,aG 0 0),(3,aB.S (h5 (b.2.1.take e))),(4,S e)]) (λ_=>[oG b]) (λe=>c b.2.1-e) 0 a (by simp[h5]) a E a y ?_);intro e n;by_cases u:e<c b.2.1
 .have t:b.2.1.getD e bj.I=b.2.1.getD e (0,[]):=rfl;have D:=p _ (og (I:=(0,[])) u);have x:=AH u;have C:=F3 b.2.1 (e+1);have M:=yv b.2.1 e n;have p:=J_ u;rw[x,dm]at C;generalize b.2.1.getD e (0,[])=k at *;have F:=tg k.2;generalize h5 (b.2.1.take e)=l at *;refine a_ j [(12,f)] a ?_ ?_
  .simp[-al,u,t,cu.E,cu.U];omega
  have z:b.2.1.getD (e:Int).toNat bj.I=k:=by rw[c1];exact t
  rw[z,cu.E];refine g.aN 1 (λd=>d<=c (gF k.2)) (λd:Nat=>[(1,aG 0 0),(3,aB.S (((gF k.2).take d).foldl e4 l)),(4,S e),(5,aB.S (gF k.2)),(6,S d)]) (λ_=>[oG b]) (λd=>c (gF k.2)-d) 0 a E a E a y ?_;intro d K;generalize gF k.2=i at *;by_cases o:d<c i
  .have s:i.getD d aB.I=i.getD d 0:=rfl;have A:=x' e4 l o;have B:=qm l (i.take d);rw[List.length_take]at B;generalize(i.take d).foldl e4 l=i7 at *;have w:=aB.E i7;refine a_ j [(24,f)] a ?_ (g.aB (d+1) a ?_ ?_ o y)
   .simp[-al,s,o,w,aB.U,a7];omega
   .rw[A];simp[-al,s,w]
   simp
  obtain rfl:d=c i:=y;rw[c9,<-p];refine a_ j [(24,m)] a E (g.aD ?_);exact PO
 obtain rfl:e=c b.2.1:=y;rw[c9];refine a_ j [(12,m)] a E (g.aD ?_);exact b_ j a v (g.aw a)
abbrev Bp:bK:=df o1 (λa=>aB.S (h5 a.2.1)) λa=>[ln a,c a.2.1<=4000000,c (hf a.2.1)<=4000000]
def Ms:bL r 48 Bp:=.bb λb a=>VR b a.1 a.2.1 a.2.2
abbrev dT:=cz×p Int×p Int
abbrev fs:=Int×dT×(Int×Int×Int×bE)×p (Int×Int)×p Int
abbrev XO:q7 cz:=x4 (u1 a1) (x4 (u1 bj) (u1 a2))
abbrev Ct:q7 dT:=x4 XO (x4 (u1 aB) (u1 aB))
abbrev cJ(a:cY α)(b:p α):O:=.c (.S m a.bk (c b) (a.fn b))
abbrev vX(a:dT):p O:=[cJ a1 a.1.1,cJ bj a.1.2.1,cJ a2 a.1.2.2,cJ aB a.2.1,cJ aB a.2.2]
abbrev gm(a:dT):z:=.q (.agg (vX a))
abbrev nF(a:fs):p O:=.c (.int .i64 a.1)::(vX a.2.1++[.c (.int .i64 a.2.2.1.1),.c (.int .i64 a.2.2.1.2.1),.c (.int .i64 a.2.2.1.2.2.1),.c (.V a.2.2.1.2.2.2),cJ a2 a.2.2.2.1,cJ aB a.2.2.2.2])
abbrev fG(a:fs):z:=.q (.agg (nF a))
structure pS(b:cz):Prop where
 fN:c b.1<=4000000
 dW:ln b
 e_:c b.2.1<=4000000
 ev:c (hf b.2.1)<=4000000
def nu(a:p ca)(d:p Int)(b:Nat):Bool:=(a.any λe=>e.1==d.getD b 0)&&j_ (λg=>g) 0 d b
def g_(b:Int)(a:dT):Bool:=(h5 a.1.2.1).all (λd=>a.2.1.contains d)&&(aD (c a.2.2)).all (nu a.1.1 a.2.2)&&hS b a.1
def RL{d}{a:Int->Bool}:d.all a=(aD (c d)).all λb=>a (d.getD b 0):=by rw[oX,fY,List.all_eq_true];grind[List.mem_iff_getElem]
def RQ{d}{R:ca->Bool}(a:w<c d):(d.take (w+1)).any R=((d.take w).any R||R (d.getD w (0,[]))):=ib
abbrev gd(a:dT):an:=.cells 30 (vX a)
def Xi(i)(b)(o:pS b.1):Y r 25 [S i,gm b] [] (bi (g_ i b)) []:=by
 refine Y.K func25 rfl λJ=>?_;have n:a8 r [(48,Bp),(49,uK),(50,Bw)]:=.cons Ms (.cons zg (.cons MA .nil));have N:=J.fY 1 a 4 a;have K:=yv b.1.2.1 _ (bC _);rw[c9]at K;have X:=o.ev;refine b_ n a ?_ ?_
 .simp[a1.E,a1.U,bj.E,bj.U,a2.E,a2.U,o.dW,o.e_,o.ev]
 rw[bj.E];unfold g_;rw[RL];generalize h5 b.1.2.1=l at *;refine g.aN 1 (λe=>e<=c l/\∀k,k<e->b.2.1.contains (l.getD k 0)=f) (λe:Nat=>[(0,S i),(3,aG 0 0),(5,aB.S l),(6,S e)]) (λ_=>[gd b]) (λe=>c l-e) 0 a E a E a ⟨by omega,by omega⟩ ?_;rintro e ⟨A,p⟩;by_cases u:e<c l
 .have t:l.getD e aB.I=l.getD e 0:=rfl;cases x:b.2.1.contains (l.getD e 0)with
  |false=>
   refine a_ n [(16,f),(26,f)] a ?_ (g.aX (bT.zero a ?_))
   .simp[-al,-List.contains_eq_mem,t,u,x,aB.E,aB.U]
   rw[kC u x];simp
  |true=>
   refine a_ n [(16,f),(26,m)] a ?_ (g.aB (e+1) a E E ⟨u,iD p x⟩ y);simp[-al,-List.contains_eq_mem,t,u,x,aB.E,aB.U,a7];omega
 obtain rfl:e=c l:=y;rw[fY.2 p,fm];refine a_ n [(16,m)] a E (g.aD ?_);refine b_ n a v (g.aN 1 (λe=>e<=c b.2.2/\∀k,k<e->nu b.1.1 b.2.2 k=f) (λe:Nat=>[(0,S i),(3,aG 0 0),(7,S e)]) (λ_=>[gd b]) (λe=>c b.2.2-e) 0 a E a E a ⟨by omega,by omega⟩ ?_);rintro e ⟨A,p⟩;by_cases u:e<c b.2.2
 .have t:b.2.2.getD e aB.I=b.2.2.getD e 0:=rfl;have bc:b.2.2.getD (e-1) aB.I=b.2.2.getD (e-1) 0:=rfl;have B:nu b.1.1 b.2.2 e=((b.1.1.any λR=>R.1==b.2.2.getD e 0)&&j_ (λD=>D) 0 b.2.2 e):=rfl;have O:=p6 (ae:=λD:Int=>D) (I:=0) (d:=b.2.2) (e:=e);generalize b.2.2.getD e 0=s at *;generalize b.2.2.getD (e-1) 0=C at *;refine a_ n [(31,f)] a gT (g.aN 1 (λk=>k<=c b.1.1) (λk:Nat=>[(0,S i),(3,aG 0 0),(7,S e),(8,bi ((b.1.1.take k).any λR=>R.1==s)),(9,S k)]) (λ_=>[gd b]) (λk=>c b.1.1-k) 0 a E a E a y ?_);intro k G;by_cases w:k<c b.1.1
  .have V:=o.fN;have z:b.1.1.getD k a1.I=b.1.1.getD k (0,[]):=rfl;have W:=RQ (R:=λR=>R.1==s) w;generalize b.1.1.getD k (0,[])=R at *;generalize(b.1.1.take k).any (λR=>R.1==s)=j at *;cases j with
   |true=>
    refine a_ n [(39,f)] a ?_ (g.aB (k+1) a ?_ ?_ w y)
    .simp[w,a7];omega
    .exact bJ
    simp
   |false=>
    refine a_ n [(39,f)] a ?_ (g.aB (k+1) a ?_ ?_ w y)
    .simp[-al,u,w,a7];omega
    .exact bJ
    simp
  obtain rfl:k=c b.1.1:=y;rw[c9];refine a_ n [(39,m)] a E (g.aD ?_);cases F:b.1.1.any (λR=>R.1==s)with
  |false=>
   rw[F,sv]at B;refine a_ n [(77,f)] a E (g.aX (bT.zero a ?_));rw[kC u B];simp
  |true=>
   rw[F,fm]at B;by_cases Q:e=0
   .subst Q;refine a_ n [(63,m),(77,m)] a ?_ (g.aB 1 a E E ⟨u,iD p bJ⟩ y);simp[a7]
   by_cases T:C<s
   .refine a_ n [(63,f),(75,m),(77,m)] a ?_ (g.aB (e+1) a E E ⟨u,iD p M⟩ y);exact Pa
   refine a_ n [(63,f),(75,f),(77,f)] a Pa (g.aX (bT.zero a ?_));exact j0
 obtain rfl:e=c b.2.2:=y;rw[fY.2 p,fm];refine a_ n [(31,m)] a E (g.aD ?_);refine b_ n a ?_ (g.aw a ?_)
 .simp[a1.E,a1.U,bj.E,bj.U,a2.E,a2.U,o.dW,o.e_,o.fN]
 simp[a1.E,bj.E,a2.E]
abbrev Bx:bK:=ek c8 (Am Ct) (λb a=>bi (g_ b a)) λ_ a=>[pS a.1]
def MC:bL r 25 Bx:=.bl λb d a=>Xi b d a
theorem aad{b a}(e:dZ b=f)(g:∀d∈a,d∈b):dZ a=f:=by unfold dZ at e⊢;grind
def K0{o}(g:dZ o=f):∀e a,∀d∈jR o e a,cC d=f
 |0,_,d,b=>by exact bJ
 |e+1,a,d,b=>by
  simp only[jR]at b;split at b
  .rename_i i;have j:=sL o a i;rcases fl.1 b with rfl|b
   .have s:c ((o.drop a).take (eA o a-a))=eA o a-a:=M;simp[cC,cF,bA];grind[aad]
   exact K0 g e _ d b
  grind
def vC{o}(a:dZ o=f):∀b∈cx o,cC b=f:=K0 a _ _
def KZ(o):∀a b,c (jR o a b)<=a
 |0,_=>bC _
 |a+1,b=>by
  simp[jR];split
  .have:=KZ o a (eA o b);grind
  simp
theorem vB(o):c (cx o)<=c o:=KZ o _ _
def eK(b:p c'):p bE:=b.flatMap λa=>cx a.2
def F6{o}(a:e<c o):eK (o.take (e+1))=eK (o.take e)++cx (o.getD e ([],[])).2:=by rw[ia a ([],[])];simp[eK]
def F5(o)(e):c (eK (o.take e))<=c (eK o):=by
 have a:eK o=eK (o.take e)++eK (o.drop e):=by unfold eK;grind[List.take_append_drop]
 grind
def CH(i)(d)(ab):∀a:p bE,c (ab.foldl (fb i d) a)<=c a+c ab:=by
 induction ab with
 |nil=>grind
 |cons b k e=>
  intro a;have g:=e (fb i d a b);have j:c (fb i d a b)<=c a+1:=by unfold fb;split<;>simp
  grind
abbrev GM:bK:=ek (eX eZ) c8 (λa b=>S (lc a b)) λa _=>[c a<=4000000]
def adx:bL r 178 GM:=.bl λb d a=>Ui b d a
abbrev GQ:bK:=ek (eX bQ) ez (λa b=>bi (a.contains b)) λa _=>[c a<=4000000]
def adD:bL r 179 GQ:=.bl λb d a=>US b d a
abbrev H2(a:p bE):z:=.q (.aq (.r 0 1 (c a) (bQ.fn a)))
structure q8(o:p c'):Prop where
 len:c o<=4000000
 fi:∀ae∈o,dZ ae.2=f/\c ae.2<=4000000
 all:c (eK o)<=100000
def V3(i)(o)(d)(p:cK i=f)(u:q8 o)(T:c d<=4000000):Y r 134 [S i,bD.S o,eZ.S d] [] (bQ.S (gu i o d)) []:=by
 refine Y.K func134 rfl λO=>?_;have l:a8 r [(177,xk),(174,xq),(178,GM),(179,GQ)]:=.cons Ed (.cons zh (.cons adx (.cons adD .nil)));refine bf l [(1000002,f)] a v (g.bP 7 9 1 a a ?_);refine cG l a v (g.aN 1 (λb=>b<=c o) (λb:Nat=>[(0,S i),(1,bD.S o),(2,eZ.S d),(7,H2 ((eK (o.take b)).foldl (fb i d) [])),(8,S b)]) (λb=>[.r 9 1 (c ((eK (o.take b)).foldl (fb i d) [])) (bQ.fn ((eK (o.take b)).foldl (fb i d) []))]) (λb=>c o-b) 0 a ?_ a ?_ a y ?_)
 .simp[eK]
 .simp[eK]
 intro b C;by_cases B:b<c o
 .have Q:o.getD (b:Int).toNat bD.I=o.getD b ([],[]):=M;have A:o.getD b ([],[])∈o:=M;obtain⟨R,J⟩:=u.fi _ A;have D:=F6 B;have K:=F5 o (b+1);have V:=u.all;have W:=u.len;have I:=vC R;generalize o.getD b ([],[])=k at *;rw[D,dm]at K;refine bf l [(15,f)] a dA ?_;rw[Q];refine g.aN 1 (λe=>e<=c (cx k.2)) (λe:Nat=>[(0,S i),(1,bD.S o),(2,eZ.S d),(7,H2 ((eK (o.take b)++(cx k.2).take e).foldl (fb i d) [])),(8,S b),(9,bQ.S (cx k.2)),(10,S e)]) (λe=>[.r 9 1 (c ((eK (o.take b)++(cx k.2).take e).foldl (fb i d) [])) (bQ.fn ((eK (o.take b)++(cx k.2).take e).foldl (fb i d) []))]) (λe=>c (cx k.2)-e) 0 a E a E a y ?_;intro e z;have F:=CH i d (eK (o.take b)++(cx k.2).take e) [];simp only[gz,dm,List.length_take]at F;by_cases N:e<c (cx k.2)
  .have j:(cx k.2).getD (e:Int).toNat bQ.I=(cx k.2).getD e []:=M;have s:cC ((cx k.2).getD e [])=f:=I _ M;have n:(eK (o.take b)++(cx k.2).take (e+1)).foldl (fb i d) []=fb i d ((eK (o.take b)++(cx k.2).take e).foldl (fb i d) []) ((cx k.2).getD e []):=ib;generalize(eK (o.take b)++(cx k.2).take e).foldl (fb i d) []=du at *;generalize(cx k.2).getD e []=w at *;have x:=bQ.a0 du w;by_cases t:lc d (e5 i w)=0
   .cases aa:du.contains w with
    |true=>
     rw[fb,bm M]at n;refine bf l [(27,f),(38,f),(45,f)] a ?_ (g.aB (e+1) a ?_ ?_ ?_ ?_)
     .simp only[U,j,p,s,t,aa,a7,bQ.E,eZ.E,fX,bA,ba,a9];exact Qf
     .rw[n];simp
     .rw[n];simp
     .grind
     omega
    |false=>
     rw[fb,bs M]at n;refine bf l [(27,f),(38,f),(45,m)] a ?_ (g.aB (e+1) a ?_ ?_ ?_ ?_)
     .simp only[U,j,p,s,t,aa,a7,show s3.bytes=16 from a,bQ.E,eZ.E,fX,bA,ba,a9];exact Qf
     .rw[n];simp only[U.Y,U,j,dm,fj,gz,ba,a9];and_intros<;>first|exactλ_ _=>rfl|exact x|rfl|omega
     .rw[n];simp only[U.Y,U,j,dm,fj,gz,ba,a9];and_intros<;>first|exact x|rfl|omega
     .grind
     omega
   rw[fb,bm M]at n;refine bf l [(27,f),(38,m)] a ?_ (g.aB (e+1) a ?_ ?_ ?_ ?_)
   .simp only[U,j,p,s,a7,eZ.E,eU,d8,t,p5,bA,ba,a9];and_intros<;>first|exact eZ.U _|omega
   .rw[n];simp
   .rw[n];simp
   .grind
   omega
  have X:e=c (cx k.2):=y;refine bf l [(27,m)] a bw (g.aD ?_);exact cG l a bJ (g.aB (b+1) a dA dA M y)
 obtain rfl:b=c o:=y;rw[c9];refine bf l [(15,m)] a E (g.aD ?_);refine cG l a v (g.aw a ?_);simp[gu,eK]
abbrev km(b:Int)(a:p bE):p Int:=a.map (e5 b)
abbrev ot(a:Int)(b:p c'):p mZ:=b.map (oq a)
abbrev Kx(b:Int)(a:p mZ):p an:=[.cells 106 [.c (.int .i64 0),.c (.S f 0 0 λ_=>[])],.cells 106 [.c (.int .i64 b),.r 2 2 (c a) (cu.fn a)],.r 142 2 (c a) (cu.fn a)]
def V_(bR i)(o)(n:cK i=f)(u:q8 o):Y r 137 [S bR,S i,bD.S o] [] (iJ (gQ bR i o)) []:=by
 refine Y.bp bd func137 rfl rfl rfl λT=>?_;have k:a8 r [(177,xk),(174,xq)]:=.cons Ed (.cons zh .nil);refine bf k [(1000002,f)] a v (g.cn 1 1 142 2 (cu.fn []) a a ?_);refine cG k a v (g.aN 3 (λe=>e<=c o) (λe:Nat=>[(1,S i),(2,bD.S o),(6,aG 0 0),(7,aG 1 0),(8,S e)]) (λe=>Kx bR (ot i (o.take e))) (λe=>c o-e) 0 a E a E a y ?_);intro e A;by_cases K:e<c o
 .have t:o.getD (e:Int).toNat bD.I=o.getD e ([],[]):=M;have z:o.getD e ([],[])∈o:=M;obtain⟨I,F⟩:=u.fi _ z;have R:=u.len;have C:=vC I;have Q:=vB (o.getD e ([],[])).2;have p:ot i (o.take (e+1))=ot i (o.take e)++[oq i (o.getD e ([],[]))]:=ib;have O:c (ot i (o.take e))=e:=M;generalize o.getD e ([],[])=b at *;generalize ot i (o.take e)=l at *;refine bf k [(18,f),(1000007,f)] a dA ?_;rw[t];refine g.bP 10 3 1 a a ?_;refine cG k a v (g.aN 4 (λd=>d<=c (cx b.2)) (λd:Nat=>[(1,S i),(2,bD.S o),(6,aG 0 0),(7,aG 1 0),(8,S e),(9,bQ.S (cx b.2)),(10,.q (.aq (.r 3 1 d (aB.fn (km i ((cx b.2).take d)))))),(11,S d)]) (λd=>Kx bR l++[.r 3 1 d (aB.fn (km i ((cx b.2).take d)))]) (λd=>c (cx b.2)-d) 0 a E a E a y ?_);intro d x;by_cases V:d<c (cx b.2)
  .have j:(cx b.2).getD (d:Int).toNat bQ.I=(cx b.2).getD d []:=M;have B:cC ((cx b.2).getD d [])=f:=C _ M;have s:=aB.a0 (km i ((cx b.2).take d)) (e5 i ((cx b.2).getD d []));rw[show(km i ((cx b.2).take d)).length=d by grind,show km i ((cx b.2).take d)++[e5 i ((cx b.2).getD d [])]=km i ((cx b.2).take (d+1)) by grind[ia]]at s;refine bf k [(31,f)] a ?_ (g.aB (d+1) a ?_ ?_ ?_ ?_)
   .simp only[U,j,n,B,a7,show ec.bytes=8 from a,bA,ba,a9];exact fp
   .exact Pc
   .exact Pc
   .grind
   omega
  have D:d=c (cx b.2):=y;rw[D,c9];have s:=cu.a0 l (oq i b);have w:c l+1=c (l++[oq i b]):=E;have J:cu.a8 (oq i b)=[N.V b.1,N.S m 1 (c (cx b.2)) (aB.fn (km i (cx b.2)))]:=by show[N.V b.1,N.S m 1 (c (km i (cx b.2))) (aB.fn (km i (cx b.2)))]=_;grind
  rw[J,<-p]at s;rw[<-p]at w;refine bf k [(31,m)] a E (g.aD ?_);refine cG k a Qk (g.aB (e+1) a E ?_ ?_ ?_)
  .simp only[U.Y,U,t,ba,a9];and_intros<;>first|exact bt.same|exact s|exact w|rfl
  .grind
  omega
 obtain rfl:e=c o:=y;rw[c9];refine bf k [(18,m)] a E (g.aD ?_);refine cG k a v (g.bd () [] ?_ (λd x=>absurd x E));simp[gQ]
def o2(b a:Nat->p N):ce 0 b a=a:=by funext e;simp[ce]
abbrev jT(a:cz):an:=.cells 27 [.c (.S m 2 (c a.1) (a1.fn a.1)),.c (.S m 2 (c a.2.1) (bj.fn a.2.1)),.c (.S m 2 (c a.2.2) (a2.fn a.2.2))]
abbrev BR(a:cz)(b:Nat)(e:p ca)(d:Nat)(g:p eE):p an:=[jT a,.cells 27 [cB,cB,cB],.h 91 2 b (a1.fn e),.h 106 2 d (bj.fn g),.h 140 2 (c a.2.2) (a2.fn a.2.2),.cells 27 [.R 2 (.S b 2 0 b),.R 3 (.S d 2 0 d),.R 4 (.S (c a.2.2) 2 0 (c a.2.2))]]
def TR(b)(z:c b.1<=4000000)(t:∀w∈b.1,c w.2<=4000000)(F:c b.2.1<=4000000)(s:ln b)(D:c b.2.2<=4000000):
  Y r 62 [b9 b] [] (.q (.agg [.R 0 (.S (c b.1) 2 0 (c b.1)),.R 1 (.S (c b.2.1) 2 0 (c b.2.1)),.R 2 (.S (c b.2.2) 2 0 (c b.2.2))])) [.h 91 2 (c b.1) (a1.fn b.1),.h 106 2 (c b.2.1) (bj.fn b.2.1),.h 140 2 (c b.2.2) (a2.fn b.2.2)]:=by
 refine Y.bp bd func62 rfl rfl rfl λB=>?_;refine bP [(1000001,f)] a v (g.region ?_);refine gI [] 5 a v (g.dJ 9 91 2 (a1.fn []) a ?_);refine g.dJ 10 106 2 (bj.fn []) a ?_;refine g.dJ 11 140 2 (a2.fn []) a ?_;refine cr a NV (g.aN 6 (λd=>d<=c b.1) (λd:Nat=>[(1,aG 0 0),(2,aG 1 0),(3,aG 5 0),(4,S d)]) (λd=>BR b d (b.1.take d) 0 []) (λd=>c b.1-d) 0 a E a ?_ a y ?_)
 .simp[bt,o2];rfl
 intro d n;by_cases l:d<c b.1
 .have k:b.1.getD d (0,[])∈b.1:=M;have x:b.1.getD (d:Int).toNat a1.I=b.1.getD d (0,[]):=M;have p:=t _ k;refine bP [(20,f),(2000038,f)] a EQ (g.aB (d+1) a E ?_ ?_ ?_)
  .have aj:=a1.cU b.1 l (0,[]);exact NI
  .grind
  omega
 obtain rfl:d=c b.1:=y;rw[c9];refine bP [(20,m)] a E (g.aD ?_);refine cr a v (g.aN 6 (λd=>d<=c b.2.1) (λd:Nat=>[(1,aG 0 0),(2,aG 1 0),(3,aG 5 0),(5,S d)]) (λd=>BR b (c b.1) b.1 d (b.2.1.take d)) (λd=>c b.2.1-d) 0 a E a E a y ?_);intro d n;by_cases l:d<c b.2.1
 .have k:b.2.1.getD d (0,[])∈b.2.1:=M;have x:b.2.1.getD (d:Int).toNat bj.I=b.2.1.getD d (0,[]):=M;have p:=s _ k;have aj:=bj.cU b.2.1 l (0,[]);generalize b.2.1.getD d (0,[])=i at *;refine bP [(47,f),(1000010,f)] a bw ?_;rw[x];refine g.cn 6 1 142 2 (cu.fn []) a a ?_;refine cr a v (g.aN 8 (λe=>e<=c i.2) (λe:Nat=>[(1,aG 0 0),(2,aG 1 0),(3,aG 5 0),(5,S d),(6,aG 6 0),(7,S e)]) (λe=>BR b (c b.1) b.1 d (b.2.1.take d)++[.cells 106 [.c (.int .i64 i.1),.r 7 2 e (cu.fn (i.2.take e))],.r 142 2 e (cu.fn (i.2.take e))]) (λe=>c i.2-e) 0 a E a E a y ?_);intro e o;by_cases u:e<c i.2
  .have j:i.2.getD (e:Int).toNat cu.I=i.2.getD e ([],[]):=M;have C:=p.2 (i.2.getD e ([],[])) M;have A:=cu.cU i.2 u ([],[]);refine bP [(66,f),(2000085,f)] a Qs (g.aB (e+1) a E PJ M ?_);omega
  obtain rfl:e=c i.2:=y;rw[c9];refine bP [(66,m)] a E5 (g.aD ?_);refine cr a Fj (g.aB (d+1) a E Fe M ?_);omega
 obtain rfl:d=c b.2.1:=y;rw[c9];refine bP [(47,m)] a E (g.aD ?_);refine cr a v (g.bd () [2,3,4] ?_ (λe o=>absurd o E));simp
def yw{e j}(A)(k:t.op=.call {callee:=.builtin .max,args:=#[l,X],argTypes:=dn})(u:η l=S e)(r:η X=S j)(x:max e j=A)(s:a7 .i64 A):a0 V t η n (S A) n:=by refine .aZ λz d y g=>?_;have b:=g l;have a:=g X;rw[u]at b;rw[r]at a;replace b:=b6 b;replace a:=b6 a;generalize i:d l=v at b;generalize o:d X=w at a;cases b;cases a;have p:(if e<j then j else e)=A:=M;exact⟨.int .i64 A,by simp[ac,k,resolve,invoke,builtin,i,o,Builtin.max_,Builtin.max2,p],.int s,by simp[ac,k,resolve,invoke,builtin,i,o,Builtin.max_,Builtin.max2]⟩
def dz(a:cz):Int:=if c a.1=0 then 1 else(a.1.getD (c a.1-1) (0,[])).1+1
def lS(b:p (Int×Int)):Int:=b.foldl (λd a=>max d (a.2+1)) 1
def dF(a:cz):Int:=if c a.2.1=0 then lS a.2.2 else max (lS a.2.2) ((a.2.1.getD (c a.2.1-1) (0,[])).1+1)
structure nT(b7:cz):Prop where
 a2:∀l∈b7.1,-4000000<=l.1/\l.1<=4000000
 bm:∀l∈b7.2.1,-4000000<=l.1/\l.1<=4000000
 aM:∀l∈b7.2.2,-4000000<=l.2/\l.2<=4000000
def sZ(d)(e:∀b∈d,-4000000<=b.2/\b.2<=4000000):1<=lS d/\lS d<=4000001:=by
 have:∀(d:p (Int×Int)) a,(∀b∈d,-4000000<=b.2/\b.2<=4000000)->1<=a->a<=4000001->1<=d.foldl (λa e=>max a (e.2+1)) a/\d.foldl (λa e=>max a (e.2+1)) a<=4000001:=by
  intro d;induction d with
  |nil=>grind
  |cons b i g=>
   grind
 exact this d 1 e y y
def Yr{d}(a:e<c d):lS (d.take (e+1))=max (lS (d.take e)) ((d.getD e (0,0)).2+1):=by unfold lS;grind[ia]
def mw{d:p α}(b:e<c d)(a:α):d.getD e a∈d:=M
def V5(b:cz)(j:dN b)(i:nT b):Y r 133 [b9 b] [] (.Q [.aq (.c (.int .i64 (dz b))),.aq (.c (.int .i64 (dF b)))]) []:=by
 refine Y.K func133 rfl λz=>?_;have u:=j.a2;have w:=j.a7;have t:=j.aM;apply g.cj [(1,aG 0 0),(4,S (dz b)),(5,S 1)] [jT b]
 .intro du;by_cases e:c b.1=0
  .exact bP [(10,m),(1000005,f)] a dA (du _ _ a (by simp[dz,e]))
  have k:=i.a2 _ (mw (show c b.1-1<c b.1 by omega) (0,[]));have x:b.1.getD ((c b.1:Int)-1).toNat a1.I=b.1.getD (c b.1-1) (0,[]):=by rw[show((c b.1:Int)-1).toNat=c b.1-1 by omega];rfl
  exact bP [(10,f),(1000005,f)] a wo (du _ _ a (by simp only[U.Y,U,dz,bm e,x,ba,a9]))
 refine cr a v (g.aN 1 (λd=>d<=c b.2.2) (λd:Nat=>[(1,aG 0 0),(4,S (dz b)),(5,S (lS (b.2.2.take d))),(6,S d)]) (λd=>[jT b]) (λd=>c b.2.2-d) 0 a ?_ a ?_ a y ?_)
 .simp[lS]
 .simp
 intro d l;by_cases e:d<c b.2.2
 .have k:=i.aM _ (mw e (0,0));have o:=sZ (b.2.2.take d) λs p=>i.aM s (hc p);have x:b.2.2.getD (d:Int).toNat a2.I=b.2.2.getD d (0,0):=M;have n:=Yr e;refine bP [(25,f)] a wo ?_;rw[x];refine g.aP (yw (lS (b.2.2.take (d+1))) a a a n.symm nJ) a a ?_;exact cr a bJ (g.aB (d+1) a E E M y)
 obtain rfl:d=c b.2.2:=y;rw[c9];refine bP [(25,m)] a E (g.aD ?_);have o:=sZ b.2.2 i.aM;by_cases e:c b.2.1=0
 .refine bP [(40,m)] a dA (g.aw a ?_);simp[dF,e]
 have k:=i.bm _ (mw (show c b.2.1-1<c b.2.1 by omega) (0,[]));have x:b.2.1.getD ((c b.2.1:Int)-1).toNat bj.I=b.2.1.getD (c b.2.1-1) (0,[]):=Q0;refine bP [(40,f)] a wo ?_;rw[x];refine g.aP (yw (dF b) a a a (by rw[dF,bm e]) (by rw[dF,bm e];simp only[a7];omega)) a a ?_;exact cr a v (g.aw a)
abbrev BS(a:cz)(b:Nat)(e:p ca)(d:Nat)(g:p eE):p an:=[jT a,.cells 27 [cB,cB,cB],.r 140 2 (c a.2.2) (a2.fn a.2.2),.cells 27 [.r 4 2 b (a1.fn e),.r 5 2 d (bj.fn g),.r 2 2 (c a.2.2) (a2.fn a.2.2)],.r 91 2 b (a1.fn e),.r 106 2 d (bj.fn g)]
def qi(b)(z:c b.1<=4000000)(t:∀w∈b.1,c w.2<=4000000)(F:c b.2.1<=4000000)(s:ln b)(D:c b.2.2<=4000000):
  Y r 62 [b9 b] [] (.q (.agg [.r 0 2 (c b.1) (a1.fn b.1),.r 1 2 (c b.2.1) (bj.fn b.2.1),.r 2 2 (c b.2.2) (a2.fn b.2.2)])) [.r 91 2 (c b.1) (a1.fn b.1),.r 106 2 (c b.2.1) (bj.fn b.2.1),.r 140 2 (c b.2.2) (a2.fn b.2.2)]:=by
 refine Y.bp bd func62 rfl rfl rfl λB=>?_;refine bP [(1000002,f)] a ?_ ?_
 .simp only[U,show s0.bytes=16 from a,ba,a9,lA];grind
 refine g.cn 3 0 91 2 (a1.fn []) a a ?_;refine g.cn 3 1 106 2 (bj.fn []) a a ?_;refine cr a v (g.aN 6 (λd=>d<=c b.1) (λd:Nat=>[(1,aG 0 0),(2,aG 1 0),(3,aG 3 0),(4,S d)]) (λd=>BS b d (b.1.take d) 0 []) (λd=>c b.1-d) 0 a E a ?_ a y ?_)
 .simp[bt,o2]
 intro d n;by_cases l:d<c b.1
 .have k:b.1.getD d (0,[])∈b.1:=M;have x:b.1.getD (d:Int).toNat a1.I=b.1.getD d (0,[]):=M;have p:=t _ k;refine bP [(20,f),(2000038,f)] a EQ (g.aB (d+1) a E ?_ ?_ ?_)
  .have aj:=a1.cU b.1 l (0,[]);simp only[U.Y,U,x,o2,cV,a9,ba];exact Qm
  .grind
  omega
 obtain rfl:d=c b.1:=y;rw[c9];refine bP [(20,m)] a E (g.aD ?_);refine cr a v (g.aN 6 (λd=>d<=c b.2.1) (λd:Nat=>[(1,aG 0 0),(2,aG 1 0),(3,aG 3 0),(5,S d)]) (λd=>BS b (c b.1) b.1 d (b.2.1.take d)) (λd=>c b.2.1-d) 0 a E a E a y ?_);intro d n;by_cases l:d<c b.2.1
 .have k:b.2.1.getD d (0,[])∈b.2.1:=M;have x:b.2.1.getD (d:Int).toNat bj.I=b.2.1.getD d (0,[]):=M;have p:=s _ k;have aj:=bj.cU b.2.1 l (0,[]);generalize b.2.1.getD d (0,[])=i at *;refine bP [(47,f),(1000010,f)] a bw ?_;rw[x];refine g.cn 6 1 142 2 (cu.fn []) a a ?_;refine cr a v (g.aN 8 (λe=>e<=c i.2) (λe:Nat=>[(1,aG 0 0),(2,aG 1 0),(3,aG 3 0),(5,S d),(6,aG 6 0),(7,S e)]) (λe=>BS b (c b.1) b.1 d (b.2.1.take d)++[.cells 106 [.c (.int .i64 i.1),.r 7 2 e (cu.fn (i.2.take e))],.r 142 2 e (cu.fn (i.2.take e))]) (λe=>c i.2-e) 0 a E a E a y ?_);intro e o;by_cases u:e<c i.2
  .have j:i.2.getD (e:Int).toNat cu.I=i.2.getD e ([],[]):=M;have C:=p.2 (i.2.getD e ([],[])) M;have A:=cu.cU i.2 u ([],[]);refine bP [(66,f),(2000085,f)] a Qs (g.aB (e+1) a E PJ M ?_);omega
  obtain rfl:e=c i.2:=y;rw[c9];refine bP [(66,m)] a E5 (g.aD ?_);refine cr a Fj (g.aB (d+1) a E ?_ ?_ ?_)
  .simp only[U.Y,U,a9,ba];exact Qm
  .grind
  omega
 obtain rfl:d=c b.2.1:=y;rw[c9];refine bP [(47,m)] a E (g.aD ?_);refine cr a v (g.bd () [4,5,2] ?_ (λe o=>absurd o E));simp
def _root_.Go.AM.cY.hk(a:cY α)(d)(g:bt k T (a.fn d))(l:k<=c d):a.af k T=d.take k:=by
 apply rf
 .simp[cY.af];omega
 intro e i j;have b:e<k:=M;simp[cY.af,g e b,cY.fn,gr,al,bI (show e<c d by omega),a.inv]
def _root_.Go.AM.cY.g9(a:cY α)(d)(g:bt k T (a.fn d)):a.bW k T:=λe b=>by rw[g e b];exact a.U d e (Nat.lt_succ_self e)
def aax(a b:Nat):min (a:Int) (b:Int)=((min a b:Nat):Int):=M
def iv(d:Int):Nat->Int->p bE->p ca
 |0,_,_=>[]
 |e+1,b,a=>if 0<c a then kN b d (a.take 4)::iv d e (b+1) (a.drop 4)else[]
def pm(a:Int)(b:cz)(d:p c'):p ca:=iv a (c (gu a d (e3 b.1))) (dz b) (gu a d (e3 b.1))
def fJ(b:Int)(a:cz)(d:p c'):Bool:=decide (20<c a.1+c (pm b a d))||(decide (99<dz a+c (pm b a d)-1)||(decide (20<dF a)||decide (9<=c a.2.2)))
def hR(d:Int)(a:cz)(b:Int)(e:p c'):cz:=(a.1++pm d a e,a.2.1++[gQ (dF a) d e],a.2.2++[(b,dF a)])
theorem KO(i):∀d a b,c (iv i d a b)<=d
 |0,_,_=>bC _
 |d+1,a,b=>by
  simp[iv];split
  .have:=KO i d (a+1) (b.drop 4);grind
  simp
abbrev G0:bK:=kb c8 c8 (eX bQ) (λd b a=>fz (kN d b a)) λ_ b a=>[cK b=f,∀e∈a,cC e=f,c a<=4000000]
def adM:bL r 136 G0:=.c0 λb e d a=>VO b e d a.1 a.2.1 a.2.2
abbrev G3:bK:=kb c8 c8 (eX bD) (λb a d=>iJ (gQ b a d)) λ_ a d=>[cK a=f,q8 d]
def adP:bL r 137 G3:=.c0 λa d e b=>V_ a d e b.1 b.2
abbrev G2:bK:=kb c8 (eX bD) (eX eZ) (λa d b=>bQ.S (gu a d b)) λa d b=>[cK a=f,q8 d,c b<=4000000]
def adO:bL r 134 G2:=.c0 λb e d a=>V3 b e d a.1 a.2.1 a.2.2
def vS{o}{d}(j:q8 o):(∀a∈gu i o d,cC a=f)/\c (gu i o d)<=100000:=by
 constructor
 .have:∀(b g:p bE),(∀a∈b,cC a=f)->(∀a∈g,cC a=f)->∀a∈b.foldl (fb i d) g,cC a=f:=by
   intro b;induction b with
   |nil=>grind
   |cons t u l=>
    intro g s r;refine l _ (λa e=>s a (m6 _ e)) λa e=>?_;unfold fb at e;grind
  refine this _ [] (λa e=>?_) E;obtain⟨n,k,e⟩:=List.mem_flatMap.1 e;exact vC (j.fi n k).1 a e
 have:=CH i d (eK o) [];have r:=j.all;unfold gu;simp[gz]at this;exact fF this y
theorem JN{d}(a:c (dP d)<=100000):c (e3 d)<=100000:=by unfold e3;grind[CI]
abbrev ab2(e b d:Int)(g:cz)(i:p c')(a:p bE):bH:=[(0,S e),(2,S b),(3,bD.S i),(5,aG 0 0),(8,aG 1 0),(10,aG 5 0),(11,S d),(12,S (dF g)),(13,bQ.S a)]
abbrev LI(b:cz)(a:p ca):p an:=[jT b,.cells 27 [cB,cB,cB],.r 91 2 (c a) (a1.fn a),.r 106 2 (c b.2.1) (bj.fn b.2.1),.r 140 2 (c b.2.2) (a2.fn b.2.2),.cells 27 [.r 2 2 (c a) (a1.fn a),.r 3 2 (c b.2.1) (bj.fn b.2.1),.r 4 2 (c b.2.2) (a2.fn b.2.2)]]
abbrev Mz(a:cz)(b:Bool):z:=.Q [.agg [.c (.S m 2 (c a.1) (a1.fn a.1)),.c (.S m 2 (c a.2.1) (bj.fn a.2.1)),.c (.S m 2 (c a.2.2) (a2.fn a.2.2))],.aq (.c (.bool b))]
def WH(i)(b)(k)(o)(B:cK i=f)(x:dN b)(I:nT b)(K:q8 o)(ak:c (dP b.1)<=100000):
  Y r 99 [S i,b9 b,S k,bD.S o] [] (Mz (if fJ i b o=f then b else hR i b k o) (!fJ i b o)) []:=by
 refine Y.bE func99 rfl rfl rfl λau=>?_;have s:a8 r [(135,GP),(134,G2),(136,G0),(137,G3)]:=.cons adC (.cons adO (.cons adM (.cons adP .nil)));have aM:=x.a2;have P:=x.a7;have av:=x.aM;have ax:=JN ak;refine cG s a v (g.aF (qi b x.a2 x.bs x.a7 x.bz x.aM) [] a (cG s a v (g.aF (V5 b x I) [] a (cG s a bJ ?_))));simp[a1.E,eZ.E,bD.E];obtain⟨an,az⟩:=vS (i:=i) (d:=e3 b.1) K;have aw:pm i b o=iv i (c (gu i o (e3 b.1))) (dz b) (gu i o (e3 b.1)):=rfl;generalize gu i o (e3 b.1)=C at *;generalize T:pm i b o=e at *;have L:-4000000<=dz b/\dz b<=4000001:=by
  unfold dz;split
  .omega
  rename_i u;exact Qz
 have H:c e<=100000:=by grind[KO]
 refine g.cl (S2:=Unit) 0 a a (λ_=>True) (λ_=>[(0,S i),(2,S k),(3,bD.S o),(5,aG 0 0),(8,aG 1 0),(10,aG 5 0),(11,S (dz b+c e)),(12,S (dF b))]) (λ_=>LI b (b.1++e)) 6
  (λl:p bE×p ca=>(∀R∈l.1,cC R=f)/\c l.2+c l.1<=5000000/\c b.1<=c l.2/\∃n,c l.1<=n/\b.1++e=l.2++iv i n (dz b+(c l.2-c b.1:Nat)) l.1) (λl=>ab2 i k (dz b+(c l.2-c b.1:Nat)) b o l.1) (λl=>LI b l.2) (λl=>c l.1) (C,b.1) a ?_ a ?_ a ⟨an,by grind,bC _,c C,bC _,by grind⟩ ?_ ?_
 .simp
 .simp
 .rintro du ⟨br,ab⟩ ⟨w,O,ae,n,G,A⟩;simp only at w O ae G A;by_cases u:0<c br
  .obtain⟨n,rfl⟩:∃Z,n=Z+1:=⟨n-1,by omega⟩
   simp[iv,bs u]at A;have ad:a7 .i64 ((min (c br) 4:Nat):Int):=nJ;refine bf s [(30,f)] a bw (g.aP (yy ((min (c br) 4:Nat):Int) a a a (aax (c br) 4) ad) a a ?_);have Q:bQ.af (bS (c br) (h ((min (c br) 4:Nat):Int))-bS 0 q) (fw (bS 0 q) (bQ.fn br))=br.take 4:=by have E:bS (c br) (h ((min (c br) 4:Nat):Int))-bS 0 q=min (c br) 4:=wx;rw[E,bQ.hk br (λJ t=>by simp[fw,bS]) y];grind
   have X:bQ.bW (bS (c br) (h ((min (c br) 4:Nat):Int))-bS 0 q) (fw (bS 0 q) (bQ.fn br)):=bQ.g9 br (λJ t=>by simp[fw,bS]);have ao:bt (c br-min (c br) 4) (fw (min (c br) 4) (bQ.fn br)) (bQ.fn (br.drop 4)):=by intro J t;have V:min (c br) 4=4:=y;rw[V];simp[fw,cY.fn,gr,al,pY]
   have aq:∀R∈br.take 4,cC R=f:=λR D=>w R (hc D);have aa:=a1.a0 ab (kN (dz b+(c ab-c b.1:Nat)) i (br.take 4));refine cG s a ?_ (g.aB (br.drop 4,ab++[kN (dz b+(c ab-c b.1:Nat)) i (br.take 4)]) a ?_ ?_ ?_ ?_)
   .simp only[U,a7,Q,B,X,List.length_take,show np.bytes=32 from a,ba,a9];and_intros<;>first|omega|omega
   .simp only[U.Y,U,dm,fj,gz,sk,bS,c1,ba,a9];and_intros<;>first|rfl|omega|simp|exact ao
   .simp only[U.Y,U,Q,dm,fj,gz,ba,a9];and_intros<;>first|rfl|exactλ_ _=>rfl|exact aa|omega
   .refine⟨λR D=>w R (sj D),by grind,by grind,n,by grind,?_⟩;grind
   grind
  have F:ab=b.1++e:=by rw[A];cases n<;>simp[iv,u]
  refine bf s [(30,m)] a bJ (g.aD ?_);refine du () v a ?_ a ?_
  .simp only[U.Y,U,F,dm,ba,a9];and_intros<;>first|rfl|omega|simp
  simp[F]
 rintro⟨⟩ -;have z:fJ i b o=(decide (20<c b.1+c e)||(decide (99<dz b+c e-1)||(decide (20<dF b)||decide (9<=c b.2.2)))):=by unfold fJ;rw[T]
 have N:-4000000<=dF b/\dF b<=4000001:=by
  have:=sZ b.2.2 I.aM;unfold dF;split
  .omega
  rename_i u;exact Od
 have ar:c (b.1++e)=c b.1+c e:=dm;by_cases ag:20<c b.1+c e
 .have j:fJ i b o=f:=M;rw[j];exact bf s [(53,f)] a bw zM
 by_cases ah:99<dz b+c e-1
 .have j:fJ i b o=f:=M;rw[j];exact bf s [(53,m),(57,f)] a EU zM
 by_cases ai:20<dF b
 .have j:fJ i b o=f:=M;rw[j];exact bf s [(53,m),(57,m),(61,f)] a EU zM
 by_cases aj:9<=c b.2.2
 .have j:fJ i b o=f:=M;rw[j];exact bf s [(53,m),(57,m),(61,m),(67,f)] a EU zM
 have j:fJ i b o=m:=M;rw[j];have E:=bj.a0 b.2.1 (gQ (dF b) i o);have W:=a2.a0 b.2.2 (k,dF b);refine bf s [(53,m),(57,m),(61,m),(67,m)] a ?_ ?_
 .simp only[U,B,bD.E,dm,a7,show rD.bytes=32 from a,show s0.bytes=16 from a,bA,dt,ba,a9];and_intros<;>first|exact K|exact bD.U _|rfl|omega
 refine g.freeze 8 1 a a a ?_;refine g.cp bd [] a ?_ a a a fI;simp[U.Y,U,bD.E,hR,T,dm,fj,gz,ba,a9];and_intros<;>first|rfl|exactλ_ _=>rfl|exact E|exact W|simp
def te(a:Int×Int):Bool:=decide (0<=a.1/\a.1<=9)&&decide (0<=a.2)
abbrev om(b:fs)(a:Nat):Int×Int:=b.2.2.2.1.getD a (0,0)
abbrev oc(b:fs)(a:Nat):Int:=b.2.2.2.2.getD a 0
def qQ(b:fs)(a:Nat):Bool:=te (om b a)&&decide (0<=oc b a/\oc b a<=2)
def hT(a:fs):Bool:=decide (c a.2.2.2.1=2)&&decide (c a.2.2.2.2=2)&&(aD 2).all (qQ a)&&g_ a.1 a.2.1
def VT(A):Y r 23 [pW.a8 A] [] (bi (te A)) []:=by
 refine Y.K func23 rfl λe=>?_;have d:a8 r [(24,jF)]:=.cons ks .nil;by_cases b:0<=A.1/\A.1<=9
 .exact a_ d [(6,f)] a (by simp[b]) (g.aw a (by simp[te,b]))
 exact a_ d [(6,m)] a bX (g.aw a (by simp only[U,te,lB b];simp))
def IZ(d)(w:pS d.2.1.1):Y r 8 [fG d] [] (bi (hT d)) []:=by
 refine Y.K func8 rfl λx=>?_;have e:a8 r [(23,df pW (λl=>bi (te l)) λ_=>[]),(24,jF),(25,Bx)]:=.cons (.bb λl _=>VT l) (.cons ks (.cons MC .nil));unfold hT;by_cases u:c d.2.2.2.1=2
 rotate_left
 .exact a_ e [(8,f),(13,f)] a bX (g.aw a (by simp[lB u]))
 by_cases p:c d.2.2.2.2=2
 rotate_left
 .exact a_ e [(8,m),(13,f)] a bX (g.aw a (by simp[lB p]))
 refine a_ e [(8,m),(13,m)] a bX ?_;rw[fk u,fk p,fm,fm];refine g.aN 1 (λb=>b<=2/\∀s,s<b->qQ d s=f) (λb:Nat=>[(1,aG 0 0),(3,S b)]) (λ_=>[.cells 35 (nF d)]) (λb=>2-b) 0 a E a E a ⟨by omega,by omega⟩ ?_;rintro b ⟨v,n⟩;by_cases k:b<2
 .have j:d.2.2.2.1.getD b a2.I=om d b:=rfl;have o:d.2.2.2.2.getD b aB.I=oc d b:=rfl;cases i:te (om d b)with
  |false=>
   refine a_ e [(15,f),(25,f),(33,f)] a ?_ (g.aX (bT.zero a ?_))
   .simp[-al,j,i];omega
   rw[kC k (by rw[qQ,i];rfl)];simp
  |true=>
   by_cases t:0<=oc d b/\oc d b<=2
   .refine a_ e [(15,f),(25,m),(33,m)] a ?_ (g.aB (b+1) a E E ⟨k,iD n (by rw[qQ,i,fk t];rfl)⟩ y);simp[-al,j,o,i,a7];omega
   refine a_ e [(15,f),(25,m),(33,f)] a ?_ (g.aX (bT.zero a ?_))
   .simp[-al,j,o,i];omega
   rw[kC k (by rw[qQ,lB t,Bool.and_false])];simp
 obtain rfl:b=2:=y;rw[fY.2 n,fm];refine a_ e [(15,m)] a E (g.aD ?_);refine b_ e a ?_ (g.aw a ?_)
 .simp[a1.E,a1.U,bj.E,bj.U,a2.E,a2.U,aB.E,aB.U,w]
 exact zS
abbrev xC(a:cz)(e:Nat)(d:Nat->p N)(g:Nat)(k:p eE)(b:fg)(j:Nat)(i:p Z):p an:=[jT a,.cells 27 [cB,cB,cB],.h 91 2 e d,.h 106 2 g (bj.fn k),.h 140 2 (c a.2.2) (a2.fn a.2.2),.cells 27 [.R 2 (.S e 2 0 e),.R 3 (.S g 2 0 g),.R 4 (.S (c a.2.2) 2 0 (c a.2.2))],.J (ck 131 2 b j i)]
def TT(b)(i0)(V:i0<c b.1)(A:0<(b.1.getD i0 (0,[])).2.length)(z:c b.1<=4000000)(K:∀w∈b.1,c w.2<=4000000)(H:c b.2.1<=4000000)(R:ln b)(G:c b.2.2<=4000000):
  bk (ι:=pQ (b.1.getD i0 (0,[])).2) r 62 [b9 b] [] (λ_=>.q (.agg [.R 0 (.S (c b.1) 2 0 (c b.1)),.R 1 (.S (c b.2.1) 2 0 (c b.2.1)),.R 2 (.S (c b.2.2) 2 0 (c b.2.2))]))
   (λk=>[.h 91 2 (c b.1) (ga b.1 i0 (cX k.1.1 (b.1.getD i0 (0,[])).2.length)),.h 106 2 (c b.2.1) (bj.fn b.2.1),.h 140 2 (c b.2.2) (a2.fn b.2.2),ti (b.1.getD i0 (0,[])).2 k]):=by
 refine bk.bE bd func62 rfl rfl rfl λW=>?_;refine bP [(1000001,f)] a v (g.region ?_);refine gI [] 5 a v (g.dJ 9 91 2 (a1.fn []) a ?_);refine g.dJ 10 106 2 (bj.fn []) a ?_;refine g.dJ 11 140 2 (a2.fn []) a ?_;refine bP [(1000002,f)] a NV (g.fe 131 2 ?_);refine cr a v (g.aN 7 (I3 b.1 i0) (λj:S3=>[(1,aG 0 0),(2,aG 1 0),(3,aG 5 0),(4,S j.1)]) (λj=>xC b j.1 (ga b.1 i0 (nD j)) 0 [] j.2.1 j.2.2.1 j.2.2.2) (λj=>c b.1-j.1) (0,.nil q,0,[]) a E a ?_ a ⟨by omega,.inl ⟨by omega,a⟩⟩ ?_)
 .simp[bt,o2];rfl
 rintro⟨d,i,p,l⟩ ⟨t,B⟩;simp only at t B;by_cases o:d<c b.1
 .have aa:b.1.getD d (0,[])∈b.1:=M;have x:b.1.getD (d:Int).toNat a1.I=b.1.getD d (0,[]):=M;have k:=K _ aa;by_cases u:d=i0
  .subst u;have F:p=0:=by rcases B with⟨_,O⟩|⟨N,_⟩<;>omega
   rw[<-x]at A k;refine a6 [(20,f),(1000005,f)] a bw ?_;refine g.eF (ι:=pQ (b.1.getD (d:Int).toNat a1.I).2) b5 15 18 8 (λs=>ay s 14)
    (λs=>[aG 5 0,cy 2 (.S d 2 0 d),aG 0 0,a1.S b.1,S d,iH [.int .i64 (b.1.getD (d:Int).toNat a1.I).1,ll (b.1.getD (d:Int).toNat a1.I)],iH [.int .i64 (b.1.getD (d:Int).toNat a1.I).1,ll (b.1.getD (d:Int).toNat a1.I)],S (b.1.getD (d:Int).toNat a1.I).1,
     ax (.S f 2 0 (λe=>[].getD e [])),aG 0 0,a1.S b.1,S d,iH [.int .i64 (b.1.getD (d:Int).toNat a1.I).1,ll (b.1.getD (d:Int).toNat a1.I)],iH [ll (b.1.getD (d:Int).toNat a1.I)],ax (ll (b.1.getD (d:Int).toNat a1.I))].getD s .any)
    (λk s=>[ax (rQ _ k),.q (.agg [.c (.int .i64 (b.1.getD (d:Int).toNat a1.I).1),.c (rQ _ k)]),ax (.S f 2 1 (λe=>[[.int .i64 (b.1.getD (d:Int).toNat a1.I).1,rQ _ k]].getD e []))].getD (s-15) .any)
    (λk=>xC b d (ga b.1 d (cX i p)) 0 [] i p l++[ti _ k])
    rfl rfl rfl rfl rfl rfl rfl (λs o=>by have:=e' o;omega) rfl
    ⟨aT.y,aT.y,aT.y,aT.y,aT.y,aT.eval (bg:=[]) bd a8.nil a ?_,aT.y,aT.y,aT.y,aT.y,aT.y,aT.y,aT.eval (bg:=[]) bd a8.nil a ?_,aT.y,aT.y,v,v,v,v,v,v,v⟩
    (λk=>⟨aT.y,aT.y,aT.y,aT.y,aT.y,aT.eval (bg:=[]) bd a8.nil a ?_,aT.y,aT.y,aT.y,aT.y,aT.y,aT.y,aT.eval (bg:=[]) bd a8.nil a ?_,aT.y,aT.y,v,aT.y,aT.y,v⟩)
    (dx.fa a (ev.fA (F_ a) a a a A zW (GR _ _))) ?_
   .exact bw
   .exact bw
   .exact bw
   .exact bw
   rw[x];rw[x]at A k;generalize J:b.1.getD d (0,[])=w at *;intro C;refine a6 [(1000004,f)] a PW (g.swap 6 7 b' a a (λ_ _ o=>o.1) (λ_ _ o=>o.1) ?_);refine aZ a bJ (g.aB (d+1,C.1.1,c w.2,C.1.2) a E ?_ ?_ ?_)
   .have aj:=K2 (ab:=b.1) (i0:=d) (bz:=cX C.1.1 (c w.2)) (Et:=cX i p);rw[J]at aj;exact Fe
   .refine⟨by grind,.inr ⟨by grind,?_⟩⟩;grind
   grind
  refine bP [(20,f),(2000038,f)] a EQ (g.aB (d+1,i,p,l) a E ?_ ?_ ?_)
  .have aj:=K1 (ab:=b.1) (bz:=cX i p) u;exact NI
  .refine⟨by grind,?_⟩;grind
  grind
 obtain rfl:d=c b.1:=y;obtain⟨_,F,Q⟩:i0<c b.1/\p=(b.1.getD i0 (0,[])).2.length/\eg 2 (b.1.getD i0 (0,[])).2.length (bG.fn (b.1.getD i0 (0,[])).2) l:=M;subst F;clear B;generalize b.1.getD i0 (0,[])=n at *;refine bP [(20,m)] a E (g.aD ?_);refine cr a v (g.aN 7 (λd=>d<=c b.2.1) (λd:Nat=>[(1,aG 0 0),(2,aG 1 0),(3,aG 5 0),(5,S d)]) (λd=>xC b (c b.1) (ga b.1 i0 (cX i (c n.2))) d (b.2.1.take d) i (c n.2) l) (λd=>c b.2.1-d) 0 a E a E a y ?_);intro d t;by_cases o:d<c b.2.1
 .have aa:b.2.1.getD d (0,[])∈b.2.1:=M;have x:b.2.1.getD (d:Int).toNat bj.I=b.2.1.getD d (0,[]):=M;have k:=R _ aa;have aj:=bj.cU b.2.1 o (0,[]);generalize b.2.1.getD d (0,[])=j at *;refine bP [(47,f),(1000010,f)] a bw ?_;rw[x];refine g.cn 7 1 142 2 (cu.fn []) a a ?_;refine cr a v (g.aN 9 (λe=>e<=c j.2) (λe:Nat=>[(1,aG 0 0),(2,aG 1 0),(3,aG 5 0),(5,S d),(6,aG 7 0),(7,S e)]) (λe=>xC b (c b.1) (ga b.1 i0 (cX i (c n.2))) d (b.2.1.take d) i (c n.2) l++[.cells 106 [.c (.int .i64 j.1),.r 8 2 e (cu.fn (j.2.take e))],.r 142 2 e (cu.fn (j.2.take e))]) (λe=>c j.2-e) 0 a E a E a y ?_);intro e I;by_cases u:e<c j.2
  .have D:j.2.getD (e:Int).toNat cu.I=j.2.getD e ([],[]):=M;have X:=k.2 (j.2.getD e ([],[])) M;have T:=cu.cU j.2 u ([],[]);refine bP [(66,f),(2000085,f)] a ?_ (g.aB (e+1) a ?_ ?_ ?_ ?_)
   .simp only[U,x,D,a7,show yk.bytes=40 from a,show ec.bytes=8 from a,bA,lA,ba,a9];exact fp
   .simp
   .simp only[U.Y,U,x,D,o2,cV,a9,ba];and_intros<;>first|exactλ_ _=>rfl|exact T|rfl
   .grind
   omega
  obtain rfl:e=c j.2:=y;rw[c9];refine bP [(66,m)] a E5 (g.aD ?_);refine cr a Fj (g.aB (d+1) a E Fe M ?_);omega
 obtain rfl:d=c b.2.1:=y;rw[c9];refine bP [(47,m)] a E (g.aD ?_);refine cr a v (g.bd ⟨(i,l),Q⟩ [2,3,4,6] ?_ (λe I=>absurd I E));simp
def Tp(b:cz)(d:Int)(k:c b.2.2<=4000000)(l:d<0∨d>c b.2.2):Y r 101 [b9 b,S d] [] (b9 b) []:=by refine Y.bp bd func101 rfl rfl rfl λj=>?_;have i:a8 r [(24,jF)]:=.cons ks .nil;refine bf i [(15,f)] a bX ?_;refine g.bd () [] ?_ (λn e=>absurd e E);simp
abbrev mA(a:Nat)(d:cz)(b:p eE):p eE:=b.filter λe=>!jm a d.2.2 e
abbrev sY(d:Nat)(e:cz)(b:Nat)(g:eE):Bool:=((e.2.2.drop d).take b).any λa=>a.2==g.1
abbrev Gn(b:cz)(d:Nat)(a:p eE):p an:=[.cells 27 [.c (tv b.1),.c (tw b.2.1),.c (hQ (b.2.2.take d))],.cells 27 [cB,cB,cB],.r 106 2 (c a) (bj.fn a)]
def I8(a:α->Bool){d}(g:e<c d)(b):(d.take (e+1)).filter a=(d.take e).filter a++(if a (d.getD e b)then[d.getD e b]else[]):=ib
def RP(a:α->Bool){d}(g:e<c d)(b):(d.take (e+1)).any a=((d.take e).any a||a (d.getD e b)):=ib
def Tq(b)(k)(R:k<=c b.2.2)(Q:c b.2.1<=4000000)(C:∀n∈b.2.1,-4000000<=n.1/\n.1<=4000000)(O:c b.2.2<=4000000):Y r 101 [b9 b,S k] [] (b9 (b.1,mA k b b.2.1,b.2.2.take k)) []:=by
 refine Y.bp bd func101 rfl rfl rfl λN=>?_;have o:a8 r [(24,jF)]:=.cons ks .nil;refine a_ o [(15,m),(1000006,f)] a ?_ ?_
 .simp[jc];omega
 refine g.bP 6 106 2 a a ?_;refine b_ o a v (g.aN 3 (λe=>e<=c b.2.1) (λe:Nat=>[(2,aG 0 0),(4,aG 1 0),(5,a2.S (b.2.2.drop k)),(6,.q (.aq (.r 2 2 (c (mA k b (b.2.1.take e))) (bj.fn (mA k b (b.2.1.take e)))))),(7,S e)]) (λe=>Gn b k (mA k b (b.2.1.take e))) (λe=>c b.2.1-e) 0 a ?_ a ?_ a y ?_)
 .have x:=a2.ha b.2.2 k (c b.2.2-k);simp[bS];exact x
 .simp[bS];exact⟨by omega,λe u=>by have B:e<k:=u;simp[fw,bS,cY.fn,gr,al,ik,B]⟩
 intro e u;by_cases w:e<c b.2.1
 .have F:b.2.1.getD e (0,[])∈b.2.1:=M;have s:b.2.1.getD (e:Int).toNat bj.I=b.2.1.getD e (0,[]):=M;have J:=C _ F;have x:=bj.cU b.2.1 w (0,[]);have z:mA k b (b.2.1.take (e+1))=mA k b (b.2.1.take e)++(if !jm k b.2.2 (b.2.1.getD e (0,[]))then[b.2.1.getD e (0,[])]else[]):=I8 (λn=>!jm k b.2.2 n) w (0,[]);have K:c (mA k b (b.2.1.take e))<=e:=fF (kz _ _) M;generalize mA k b (b.2.1.take e)=l at *;generalize b.2.1.getD e (0,[])=n at *;refine bf o [(31,f)] a ?_ ?_
  .simp only[U,s,bA,lA,ba,a9];grind
  refine g.aN 3 (λi=>i<=c (b.2.2.drop k)) (λi:Nat=>[(2,aG 0 0),(4,aG 1 0),(5,a2.S (b.2.2.drop k)),(6,.q (.aq (.r 2 2 (c l) (bj.fn l)))),(7,S e),(8,bi (sY k b i n)),(9,S i)]) (λi=>Gn b k l) (λi=>c (b.2.2.drop k)-i) 0 a E a E a y ?_;intro i A;have I:=sk (i:=k) (l:=b.2.2);by_cases D:i<c (b.2.2.drop k)
  .have j:(b.2.2.drop k).getD (i:Int).toNat a2.I=(b.2.2.drop k).getD i (0,0):=M;have p:sY k b (i+1) n=(sY k b i n||((b.2.2.drop k).getD i (0,0)).2==n.1):=RP (λw:Int×Int=>w.2==n.1) D (0,0);cases t:sY k b i n with
   |true=>
    refine bf o [(37,f)] a QD (g.aB (i+1) a ?_ ?_ ?_ ?_)
    .rw[t]at p;simp[p]
    .simp
    .grind
    omega
   |false=>
    refine bf o [(37,f)] a QD (g.aB (i+1) a ?_ ?_ ?_ ?_)
    .rw[t]at p;simp only[U.Y,U,bt.same,p,s,j,ba,a9,Bool.false_or];rfl
    .simp
    .grind
    omega
  obtain rfl:i=c (b.2.2.drop k):=y;have p:sY k b (c (b.2.2.drop k)) n=jm k b.2.2 n:=by unfold sY jm;grind
  rw[p];cases t:jm k b.2.2 n with
  |true=>
   rw[t]at z;refine bf o [(37,m)] a E (g.aD ?_);refine cG o a tQ (g.aB (e+1) a ?_ ?_ ?_ ?_)
   .have:mA k b (b.2.1.take (e+1))=l:=M;rw[this];exact Pr
   .rw[show mA k b (b.2.1.take (e+1))=l by grind];simp
   .grind
   omega
  |false=>
   rw[t]at z;refine bf o [(37,m)] a E (g.aD ?_);refine cG o a ?_ (g.aB (e+1) a ?_ ?_ ?_ ?_)
   .simp only[U,a7,show rD.bytes=32 from a,ba,a9];exact fp
   .rw[show mA k b (b.2.1.take (e+1))=l++[n] by grind];simp only[U.Y,U,s,bt.same,ba,a9,dm,gU];exact⟨bj.a0 l n,a⟩
   .rw[show mA k b (b.2.1.take (e+1))=l++[n] by grind];simp only[U.Y,U,s,bt.same,ba,a9,dm,gU];exact bj.a0 l n
   .grind
   omega
 obtain rfl:e=c b.2.1:=y;rw[c9];refine bf o [(31,m)] a E (g.aD ?_);refine cG o a v (g.bd () [] ?_ (λi A=>absurd A E));simp
def WS(b)(d)(e:dN b)(l:d.1≠1)(i:d.1≠2)(n:d.1≠3)(k:d.1≠4):Y r 61 [b9 b,eB d] [] (b9 b) []:=by
 refine Y.bp bd func61 rfl rfl rfl λo=>?_;refine aZ a v (g.aF (qi b e.a2 e.bs e.a7 e.bz e.aM) [] a (a6 [(13,m),(42,m),(48,m),(91,m)] a ?_ ?_))
 .simp[l,i,n,k]
 exact Oe
def IP(b)(d)(az)(e:dN b)(i:d.1=2)(k:Y r 101 [b9 b,S d.2.1] [] (b9 az) []):Y r 61 [b9 b,eB d] [] (b9 az) []:=by
 refine Y.bp bd func61 rfl rfl rfl λl=>?_;refine aZ a v (g.aF (qi b e.a2 e.bs e.a7 e.bz e.aM) [] a (a6 [(13,m),(42,f)] a ?_ ?_))
 .simp[i]
 refine g.bQ k.tocD [] a a a a E a a a bl a bl a ?_;rintro -;exact aZ a v Oe
abbrev ns(a:Int)(b:p ca):p ca:=b.filter λd=>!(d.1==a)
abbrev acg(a:cz)(d:dV)(b:p ca):p an:=[jT a,.cells 32 (vi d),.cells 27 [cB,cB,cB],.r 91 2 (c a.1) (a1.fn a.1),.r 106 2 (c a.2.1) (bj.fn a.2.1),.r 140 2 (c a.2.2) (a2.fn a.2.2),
 .cells 27 [.r 3 2 (c a.1) (a1.fn a.1),.r 4 2 (c a.2.1) (bj.fn a.2.1),.r 5 2 (c a.2.2) (a2.fn a.2.2)],.r 91 2 (c b) (a1.fn b)]
def WM(b)(d)(l:dN b)(u:d.1=1):Y r 61 [b9 b,eB d] [] (b9 (b.1.filter λj=>!(j.1==d.2.1),b.2.1,b.2.2)) []:=by
 refine Y.bp bd func61 rfl rfl rfl λA=>?_;refine aZ a v (g.aF (qi b l.a2 l.bs l.a7 l.bz l.aM) [] a (a6 [(13,f),(1000005,f)] a ?_ ?_))
 .simp[u]
 refine g.bP 6 91 2 a a ?_;refine aZ a v ?_;have w:=l.a2;refine g.aN 8 (λe=>e<=c b.1) (λe:Nat=>[(3,aG 1 0),(4,aG 2 0),(5,aG 6 0),(6,.q (.aq (.r 7 2 (c (ns d.2.1 (b.1.take e))) (a1.fn (ns d.2.1 (b.1.take e)))))),(7,S e)]) (λe=>acg b d (ns d.2.1 (b.1.take e))) (λe=>c b.1-e) 0 a E a E a y ?_;intro e t;by_cases p:e<c b.1
 .have s:b.1.getD (e:Int).toNat a1.I=b.1.getD e (0,[]):=by rw[c1];rfl
  have k:ns d.2.1 (b.1.take (e+1))=ns d.2.1 (b.1.take e)++(if !((b.1.getD e (0,[])).1==d.2.1)then[b.1.getD e (0,[])]else[]):=I8 (λj:ca=>!(j.1==d.2.1)) p (0,[]);have z:c (ns d.2.1 (b.1.take e))<=e:=fF (kz _ _) bX;generalize ns d.2.1 (b.1.take e)=i at *;generalize b.1.getD e (0,[])=j at *;cases n:j.1==d.2.1 with
  |true=>
   rw[n]at k;refine bP [(20,f),(31,m)] a ?_ (g.aB (e+1) a ?_ ?_ ?_ ?_)
   .simp only[U,s,a7,bA,dt,lA,ba,a9];and_intros<;>first|omega|simp[bne,n]
   .rw[show ns d.2.1 (b.1.take (e+1))=i by simpa using k];exact Pr
   .rw[show ns d.2.1 (b.1.take (e+1))=i by simpa using k];simp
   .exact r7
   omega
  |false=>
   rw[n]at k;refine bP [(20,f),(31,f)] a ?_ (g.aB (e+1) a ?_ ?_ ?_ ?_)
   .simp only[U,s,a7,show np.bytes=32 from a,bA,dt,lA,ba,a9];and_intros<;>first|omega|simp[bne,n]
   .rw[show ns d.2.1 (b.1.take (e+1))=i++[j] by simpa using k];simp only[U.Y,U,s,bt.same,ba,a9,dm,gU];exact⟨a1.a0 i j,a⟩
   .rw[show ns d.2.1 (b.1.take (e+1))=i++[j] by simpa using k];simp only[U.Y,U,s,bt.same,ba,a9,dm,gU];exact a1.a0 i j
   .exact r7
   omega
 obtain rfl:e=c b.1:=y;rw[c9];refine bP [(20,m)] a E (g.aD ?_);refine cr a v (g.bd () [] ?_ (λx o=>absurd o E));simp
def TO{b}{args}(ab)(dw)(k)(T:Nat->p N)(a)(l:c a=k)(j:bt k T (a2.fn a))(d:bk (ι:=Unit) r b args [] (λ_=>.q (.agg [dC 0 (c ab) (c ab),dC 1 (c dw) (c dw),dC 2 k k])) (λ_=>[.h 91 2 (c ab) (a1.fn ab),.h 106 2 (c dw) (bj.fn dw),.h 140 2 k T])):
  Y r b args [] (b9 (ab,dw,a)) []:=by
 have n:=bk.bO (aL:=λ_:Unit=>[.h 91 2 (c ab) (a1.fn ab),.h 106 2 (c dw) (bj.fn dw)]) (W:=140) (i:=2) (k:=λ_=>k) (T:=λ_=>T) d bl (λ_=>?_) bl (λ_=>gX _);have e:=bk.bO (aL:=λ_:Unit=>[.h 91 2 (c ab) (a1.fn ab)]) (W:=106) (i:=2) (k:=λ_=>c dw) (T:=λ_=>bj.fn dw) n bl (λ_=>?_) bl (λ_=>gX _);have g:=bk.bO (aL:=λ_:Unit=>[]) (W:=91) (i:=2) (k:=λ_=>c ab) (T:=λ_=>a1.fn ab) e bl (λ_=>?_) bl (λ_=>bC _);refine(g.le (oB:=λ_=>b9 (ab,dw,a)) bl (λ_=>?_)).aq
 .simp only[U.Y,U,a9,ba];exact⟨bt.same,bt.same,l.symm,j⟩
 .simp
 .simp
 simp
def WR(b)(d:dV)(e:dN b)(k:d.1=4)(p:0<=d.2.1)(o:d.2.1<c b.2.2)(i:a7 .i64 (3-lq b d)):
  bk (ι:=Unit) r 61 [b9 b,eB d] [] (λ_=>.q (.agg [dC 0 (c b.1) (c b.1),dC 1 (c b.2.1) (c b.2.1),dC 2 (c b.2.2) (c b.2.2)])) (λ_=>[.h 91 2 (c b.1) (a1.fn b.1),.h 106 2 (c b.2.1) (bj.fn b.2.1),.h 140 2 (c b.2.2) (x_ b d)]):=by
 refine bk.bE bd func61 rfl rfl rfl λl=>?_;have j:a8 r [(24,jF)]:=.cons ks .nil;have n:=e.aM;refine b_ j a v (g.aF (TR b e.a2 e.bs e.a7 e.bz e.aM) [] a (a_ j [(13,m),(42,m),(48,m),(91,f),(99,f)] a ?_ ?_))
 .have i:a7 .i64 (3-(b.2.2.getD (0+d.2.1.toNat) a2.I).1):=i;simp only[U,a7,k,bA,ba,a9]at i⊢;exact Fh
 refine g.bd () [3,4,5] ?_ fI;simp
def WP(b)(a:dV)(d:dN b)(j:a.1=4)(e:0<=a.2.1)(g:a.2.1<c b.2.2)(i:a7 .i64 (3-lq b a)):
  Y r 61 [b9 b,eB a] [] (b9 (b.1,b.2.1,b.2.2.set (0+a.2.1.toNat) (3-lq b a,(b.2.2.getD (0+a.2.1.toNat) a2.I).2))) []:=
 TO b.1 b.2.1 _ _ _ E (a2.cT b.2.2 (0+a.2.1.toNat) (3-lq b a,(b.2.2.getD (0+a.2.1.toNat) a2.I).2) (c b.2.2) (bC _)) (WR b a d j e g i)
def WQ(b)(e:dV)(d:dN b)(k:e.1=4)(o:¬(0<=e.2.1/\e.2.1<c b.2.2)):Y r 61 [b9 b,eB e] [] (b9 b) []:=by
 refine Y.bp bd func61 rfl rfl rfl λl=>?_;have i:a8 r [(24,jF)]:=.cons ks .nil;have n:=d.aM;refine b_ i a v (g.aF (qi b d.a2 d.bs d.a7 d.bz d.aM) [] a (a_ i [(13,m),(42,m),(48,m),(91,f),(99,m)] a ?_ ?_))
 .simp only[U,a7,k,dt,ba,a9];exact Fh
 refine g.bd () [] ?_ (λp j=>absurd j E);simp
abbrev DY(a:cz)(j:dV)(e g b d:Nat)(i:p Z):p an:=[jT a,.cells 32 (vi j),.cells 27 [cB,cB,cB],.h 91 2 (c a.1) (ga a.1 e (.slice (h ⟨g,0,q⟩) d b)),.h 106 2 (c a.2.1) (bj.fn a.2.1),.h 140 2 (c a.2.2) (a2.fn a.2.2),.J (ck 131 2 (.row g b) d i),.cells 27 [dC 3 (c a.1) (c a.1),dC 4 (c a.2.1) (c a.2.1),dC 5 (c a.2.2) (c a.2.2)]]
def WO(b)(d)(x:dN b)(u:d.1=3)(i0 A)(t:sb b d i0 A):
  bk (ι:={D:fg×p Z // eg 2 (b.1.getD i0 (0,[])).2.length (bG.fn (gH (b.1.getD i0 (0,[])).2 A d.2.2.2)) D.2}) r 61 [b9 b,eB d] []
   (λ_=>.q (.agg [dC 0 (c b.1) (c b.1),dC 1 (c b.2.1) (c b.2.1),dC 2 (c b.2.2) (c b.2.2)]))
   (λD=>[.h 91 2 (c b.1) (ga b.1 i0 (cX D.1.1 (b.1.getD i0 (0,[])).2.length)),.h 106 2 (c b.2.1) (bj.fn b.2.1),.h 140 2 (c b.2.2) (a2.fn b.2.2),.J (ck 131 2 D.1.1 (b.1.getD i0 (0,[])).2.length D.1.2)]):=by
 have W:=t.gr;have Y:=x.bs _ (u6 t.a');have G:=x.a2;refine bk.bE bd func61 rfl rfl rfl λH=>?_;have i:a8 r [(24,jF)]:=.cons ks .nil;refine b_ i a v (g.a9 (TT b i0 t.a' y x.a2 x.bs x.a7 x.bz x.aM) [] a bl ?_);rintro⟨⟨T,M⟩,Q⟩;refine g.fz (ck.len (d:=6) a) λV=>?_;obtain⟨j,cap,rfl⟩:=V.2.2.1 y;refine a_ i [(13,m),(42,m),(48,f)] a gT (g.aN 8 (λn:Nat×p Z=>n.1<=c b.1/\(n.1<=i0->n.2=M)/\(i0<n.1->eg 2 (b.1.getD i0 (0,[])).2.length (bG.fn (gH (b.1.getD i0 (0,[])).2 A d.2.2.2)) n.2)) (λn=>[(3,aG 1 0),(4,aG 2 0),(5,aG 7 0),(8,S n.1)]) (λn=>DY b d i0 j cap (b.1.getD i0 (0,[])).2.length n.2) (λn=>c b.1-n.1) (0,M) a E a ?_ a ⟨by omega,λ_=>rfl,λu=>by omega⟩ ?_)
 .simp only[U.Y,U,bt.same,a9,ba];and_intros<;>first|exactλ_ _=>rfl|rfl
 rintro⟨e,o⟩ ⟨F,K,J⟩;simp only at F K J;have k:0+(e:Int).toNat=e:=y;by_cases u:e<c b.1
 .by_cases R:e=i0
  .subst R;obtain rfl:=K (bC _);have w:=t.db;have z:=t.b4;generalize aa:(b.1.getD e (0,[])).2=ag at *;refine a_ i [(54,f),(1000017,f)] a ?_ ?_
   .simp only[U,bA,ba,a9];omega
   refine g.eF (ι:=Unit) b5 17 20 20 (λl=>ay l 16) (λl=>[aG 7 0,.q (.aq (dC 3 (c b.1) (c b.1))),S e,cy 3 (.bx (c b.1) 2 (0+(e:Int).toNat) 0),cy 3 (.bx (c b.1) 2 (0+(e:Int).toNat) 0),S (b.1.getD (0+(e:Int).toNat) (0,[])).1,aG 1 1,S d.2.1,bi ((b.1.getD (0+(e:Int).toNat) (0,[])).1==d.2.1),bi f,aG 1 2,S d.2.2.1,aG 7 0,.q (.aq (dC 3 (c b.1) (c b.1))),S e,cy 3 (.bx (c b.1) 2 (0+(e:Int).toNat) 0),cy 3 (.bx (c b.1) 2 (0+(e:Int).toNat) 1)].getD l .any)
    (λ_ l=>[ax (.val (.slice (h ⟨j,0,q⟩) (c ag) cap)),S (c ag),S (c ag-1)].getD (l-17) .any)
    (λ_=>DY b d e j cap (c ag) o) a a a a a a a (λl u=>by have:=e' u;omega) a
    ⟨aT.y,aT.y,aT.y,aT.eval (bg:=[]) bd i a qX,aT.y,aT.eval (bg:=[]) bd i a Nq,aT.y,aT.y,aT.y,aT.eval (bg:=[(66,f)]) bd i a Rf,aT.y,aT.y,aT.y,aT.y,aT.y,aT.eval (bg:=[]) bd i a qX,aT.y,v,v,v,v,v,v⟩
    (λ_=>⟨aT.y,aT.y,aT.y,aT.eval (bg:=[]) bd i a qX,aT.y,aT.eval (bg:=[]) bd i a Nq,aT.y,aT.y,aT.y,aT.eval (bg:=[(66,f)]) bd i a Rf,aT.y,aT.y,aT.y,aT.y,aT.y,aT.eval (bg:=[]) bd i a qX,aT.y,v,aT.eval (bg:=[]) bd i a qX,aT.eval (bg:=[]) bd i a Fs,v⟩)
    (dx.dg (aT.a1 (jZ a) (a0.e6 bd (aj:=.aq (.c (.val (.slice (h ⟨j,0,q⟩) (c ag) cap)))) a a a a a ?_ ?_))) λ_=>?_
   .exact Qo
   .grind
   refine a_ i [(78,f),(1000018,f)] a ?_ ?_
   .simp only[U,bA,a9];omega
   refine g.eF (ι:=Unit) b5 5 10 8 (λl=>ay l 4||(ay 6 l&&ay l 9)) (λl=>[aG 7 0,.q (.aq (dC 3 (c b.1) (c b.1))),S e,cy 3 (.bx (c b.1) 2 (0+(e:Int).toNat) 0),cy 3 (.bx (c b.1) 2 (0+(e:Int).toNat) 1),.any,aG 1 2,S d.2.2.1,aG 1 3,ax (.V d.2.2.2)].getD l .any)
    (λ_ l=>[ax (.val (.slice (h ⟨j,0,q⟩) (c ag) cap))].getD (l-5) .any)
    (λ_=>DY b d e j cap (c ag) o) a a a a a a a (λl u=>by simp at u;omega) a
    ⟨aT.y,aT.y,aT.y,aT.eval (bg:=[]) bd i a qX,aT.y,v,aT.y,aT.y,aT.y,aT.y,v,v,v,v⟩
    (λ_=>⟨aT.y,aT.y,aT.y,aT.eval (bg:=[]) bd i a qX,aT.y,v,aT.y,aT.y,aT.y,aT.y,v⟩)
    (dx.dg (aT.a1 (jZ a) (a0.e6 bd (aj:=.aq (.c (.val (.slice (h ⟨j,0,q⟩) (c ag) cap)))) a a a a a ?_ ?_))) λ_=>?_
   .exact Qo
   .grind
   refine b_ i a qX ?_;have N:c o=c ag*2:=Q.len;have I:0+d.2.2.1.toNat*2+1=A*2+1:=y;refine g.eL bd 6 a a a a a a a ?_ a a λB C=>?_
   .show 0+d.2.2.1.toNat*2+1+1<=c o;omega
   have ab:=Jb Q W C;refine b_ i a Fs (g.aB (e+1,o.take (A*2+1)++B++o.drop (A*2+1+c B)) a E ?_ ?_ ?_)
   .simp only[U.Y,U,bt.same,a9,ba];show ck 131 2 _ _ (List.take (0+d.2.2.1.toNat*2+1) o++B++List.drop (0+d.2.2.1.toNat*2+1+c B) o)=_;rw[I]
   .grind
   grind
  have X:=t.b2 e u R;refine a_ i [(54,f),(66,m),(78,m)] a ?_ (g.aB (e+1,o) a ?_ ?_ ?_ ?_)
  .simp only[U,a7,k,eU,bA,ba,a9];and_intros<;>first|exact X|omega
  .simp
  .simp
  .grind
  grind
 obtain rfl:e=c b.1:=y;refine a_ i [(54,m)] a E (g.aD ?_);refine b_ i a v (g.bd ⟨(.row j cap,o),J t.a'⟩ [3,4,5,6] ?_ fI);simp
def TQ{o}{args}(b)(d)(i0 A)(x:i0<c b.1)(t:bk (ι:={g:fg×p Z // eg 2 (b.1.getD i0 (0,[])).2.length (bG.fn (gH (b.1.getD i0 (0,[])).2 A d.2.2.2)) g.2}) r o args []
   (λ_=>.q (.agg [dC 0 (c b.1) (c b.1),dC 1 (c b.2.1) (c b.2.1),dC 2 (c b.2.2) (c b.2.2)]))
   (λg=>[.h 91 2 (c b.1) (ga b.1 i0 (cX g.1.1 (b.1.getD i0 (0,[])).2.length)),.h 106 2 (c b.2.1) (bj.fn b.2.1),.h 140 2 (c b.2.2) (a2.fn b.2.2),.J (ck 131 2 g.1.1 (b.1.getD i0 (0,[])).2.length g.1.2)])):
  Y r o args [] (b9 (gY b d i0 A)) []:=by
 generalize e:b.1.getD i0 (0,[])=j at *;have z:∀l,l≠i0->a1.fn (gY b d i0 A).1 l=a1.fn b.1 l:=λl n=>by simp[cY.fn,gr,al,re,p3 n]
 have D:a1.fn (gY b d i0 A).1 i0=[.int .i64 j.1,.S m 2 (c j.2) (bG.fn (gH j.2 A d.2.2.2))]:=by have:(gY b d i0 A).1.getD i0 a1.I=(j.1,gH j.2 A d.2.2.2):=M;show a1.a8 ((gY b d i0 A).1.getD i0 a1.I)=_;rw[this];show[N.int .i64 j.1,N.S m 2 (c (gH j.2 A d.2.2.2)) (bG.fn (gH j.2 A d.2.2.2))]=_;rw[Lh]
 have y:=bk.fx (aL:=λg:{g:fg×p Z // eg 2 (c j.2) (bG.fn (gH j.2 A d.2.2.2)) g.2}=>[.h 91 2 (c b.1) (ga b.1 i0 (cX g.1.1 (c j.2))),.h 106 2 (c b.2.1) (bj.fn b.2.1),.h 140 2 (c b.2.2) (a2.fn b.2.2)]) (e8:=λ_=>[.h 91 2 (c b.1) (a1.fn (gY b d i0 A).1),.h 106 2 (c b.2.1) (bj.fn b.2.1),.h 140 2 (c b.2.2) (a2.fn b.2.2)]) (W:=131) (i:=2) (k:=c j.2) (bN:=λg=>g.1.1) (ag:=λg=>g.1.2) t (λg=>g.2) 0 bl bl bl bl (λ_=>gX _)
  (λg l n=>by exact bJ)
  (λg l n s C I=>by
   by_cases u:l=i0
   .subst u;rw[D]at I;have:ga b.1 l (cX g.1.1 (c j.2)) l=[.int .i64 j.1,.val (cX g.1.1 (c j.2))]:=Ny;rw[this];rcases s with _|_|s
    .simp at I;subst I;exact⟨_,a,.inl a⟩
    .exact QP
    grind
   .rw[z l u]at I;have:ga b.1 i0 (cX g.1.1 (c j.2)) l=a1.fn b.1 l:=EI
    rw[this];exact⟨C,I,.inl a⟩)
 have B:=bk.bO (aL:=λ_=>[.h 91 2 (c b.1) (a1.fn (gY b d i0 A).1),.h 106 2 (c b.2.1) (bj.fn b.2.1)]) (W:=140) (i:=2) (k:=λ_=>c b.2.2) (T:=λ_=>a2.fn b.2.2) y bl (λ_=>?_) bl (λ_=>gX _);have v:=bk.bO (aL:=λ_=>[.h 91 2 (c b.1) (a1.fn (gY b d i0 A).1)]) (W:=106) (i:=2) (k:=λ_=>c b.2.1) (T:=λ_=>bj.fn b.2.1) B bl (λ_=>?_) bl (λ_=>gX _);have w:=bk.bO (aL:=λ_=>[]) (W:=91) (i:=2) (k:=λ_=>c b.1) (T:=λ_=>a1.fn (gY b d i0 A).1) v bl (λ_=>?_) bl (λ_=>bC _);refine(w.le (oB:=λ_=>b9 (gY b d i0 A)) bl (λ_=>?_)).aq
 .exact OY
 .simp
 .simp
 simp
def WN(b)(d)(e:dN b)(g:d.1=3)(i0 A)(a:sb b d i0 A):Y r 61 [b9 b,eB d] [] (b9 (gY b d i0 A)) []:=
 TQ b d i0 A a.a' (WO b d e g i0 A a)
abbrev acj(a:cz)(b:dV):p an:=[jT a,.cells 32 (vi b),.cells 27 [cB,cB,cB],.r 91 2 (c a.1) (a1.fn a.1),.r 106 2 (c a.2.1) (bj.fn a.2.1),.r 140 2 (c a.2.2) (a2.fn a.2.2),
 .cells 27 [.r 3 2 (c a.1) (a1.fn a.1),.r 4 2 (c a.2.1) (bj.fn a.2.1),.r 5 2 (c a.2.2) (a2.fn a.2.2)]]
def WT(b)(d)(i:dN b)(u:d.1=3)(p:pO b d):Y r 61 [b9 b,eB d] [] (b9 b) []:=by
 refine Y.bp bd func61 rfl rfl rfl λA=>?_;have j:a8 r [(24,jF)]:=.cons ks .nil;have z:=i.a2;refine b_ j a v (g.aF (qi b i.a2 i.bs i.a7 i.bz i.aM) [] a (a_ j [(13,m),(42,m),(48,f)] a gT (g.aN 7 (λe=>e<=c b.1) (λe:Nat=>[(3,aG 1 0),(4,aG 2 0),(5,aG 6 0),(8,S e)]) (λ_=>acj b d) (λe=>c b.1-e) 0 a E a E a y ?_)));intro e n;by_cases u:e<c b.1
 .have t:=p e u;have w:=i.bs _ (u6 u);have k:b.1.getD (e:Int).toNat a1.I=b.1.getD e (0,[]):=by rw[c1];rfl
  generalize b.1.getD e (0,[])=s at *;by_cases l:s.1=d.2.1
  .refine a_ j [(54,f),(66,f),(78,m)] a ?_ (g.aB (e+1) a ?_ ?_ ?_ ?_)
   .simp only[U,a7,k,l,fX,bA,dt,ba,a9];exact fp
   .simp
   .simp
   .exact r7
   omega
  refine a_ j [(54,f),(66,m),(78,m)] a ?_ (g.aB (e+1) a ?_ ?_ ?_ ?_)
  .simp only[U,a7,k,eU,bA,dt,ba,a9];and_intros<;>first|exact l|omega
  .simp
  .simp
  .exact r7
  omega
 obtain rfl:e=c b.1:=y;refine a_ j [(54,m)] a E (g.aD ?_);refine b_ j a v (g.bd () [] ?_ (λx o=>absurd o E));simp
def VY(k):Y r 247 [S k] [] (bi (decide (0<=k)&&decide (k<999999999989))) []:=by
 refine Y.K func247 rfl λb=>?_;by_cases u:0<=k
 .exact a6 [(5,f)] a gT (g.aw a gT)
 exact a6 [(5,m)] a gT (g.aw a gT)
def W5(b j):Y r 201 [o6 b j] [] (bi (gv (b,j))) []:=by
 refine Y.K func201 rfl λi=>?_;have e:a8 r [(247,df c8 (λd=>bi (decide (0<=d)&&decide (d<999999999989))) λ_=>[])]:=.cons (.bb λd _=>VY d) .nil;unfold gv;cases u:(decide (0<=b)&&decide (b<999999999989))with
 |false=>exact a_ e [(6,m),(11,m)] rfl gT (g.aw rfl)
 |true=>
  by_cases I:1<=j
  .exact a_ e [(6,f),(11,f)] a dA (g.aw a r')
  exact a_ e [(6,f),(11,m)] a dA (g.aw a r')
abbrev Bv:bK:=df pW (λa=>bi (gv a)) λ_=>[]
def My:bL r 201 Bv:=.bb λa _=>W5 a.1 a.2
def MM(d:p (Int×Int)):∀a:dG,dG.fl a->(d.foldl (λa b=>a.put b.1 b.2) a).af=d.foldl eu a.af/\dG.fl (d.foldl (λa b=>a.put b.1 b.2) a):=by
 induction d with
 |nil=>grind
 |cons b g e=>
  grind[DB,aby]
def UY(d:p ca)(T:c d<=4000000)(O:c (dP d)<=100000):Y r 162 [a1.S d] [] (a2.S (e3 d)) []:=by
 refine Y.K func162 rfl λN=>?_;have e:a8 r [(201,Bv)]:=.cons My .nil;refine cG e a v (g.bP 3 222 2 a a ?_);refine g.aN 1 (λb=>b<=c d/\(dP (d.take b)).all gv=f) (λb:Nat=>[(3,.q (.aq (.r 0 2 (c (dP (d.take b))) (a2.fn (dP (d.take b)))))),(9,a1.S d),(10,S (c d)),(11,S b)]) (λb=>[jo (dP (d.take b))]) (λb=>c d-b) 0 a ?_ a ?_ a ⟨by omega,a⟩ ?_
 .simp[dP]
 .simp[dP]
 rintro b ⟨C,k⟩;by_cases l:b<c d
 .have o:d.getD (b:Int).toNat a1.I=d.getD b (0,[]):=M;have F:=D7 l;refine bf e [(12,f)] a bw (g.aN 2 (λw=>w<=(d.getD b (0,[])).2.length/\(g9 d b w).all gv=f) (λw:Nat=>[(3,.q (.aq (.r 0 2 (c (g9 d b w)) (a2.fn (g9 d b w))))),(5,aG 1 0),(9,a1.S d),(10,S (c d)),(11,S b),(16,bG.S (d.getD b (0,[])).2),(17,S (d.getD b (0,[])).2.length),(18,S w)]) (λw=>[jo (g9 d b w),.cells 91 [.c (.int .i64 (d.getD b (0,[])).1),.c (.S m 2 (d.getD b (0,[])).2.length (bG.fn (d.getD b (0,[])).2))]]) (λw=>(d.getD b (0,[])).2.length-w) 0 a Pp a Pp a ⟨by omega,by simpa[g9]using k⟩ ?_);rintro w ⟨V,B⟩;obtain⟨J,Q⟩:=y_ (d:=d) (w:=w) l;have X:c (g9 d b w)<=100000:=M;have Z:(d.getD b (0,[])).2.length<=100000:=by grind[L5]
  by_cases z:w<(d.getD b (0,[])).2.length
  .have x:(d.getD b (0,[])).2.getD (w:Int).toNat bG.I=(d.getD b (0,[])).2.getD w (0,[]):=M;have i:g9 d b (w+1)=g9 d b w++[(((d.getD b (0,[])).2.getD w (0,[])).1,(d.getD b (0,[])).1)]:=QV;have A:=a2.a0 (g9 d b w) (((d.getD b (0,[])).2.getD w (0,[])).1,(d.getD b (0,[])).1);cases u:gv (((d.getD b (0,[])).2.getD w (0,[])).1,(d.getD b (0,[])).1)with
   |false=>
    have W:e3 d=[]:=by obtain⟨J,Q⟩:=y_ (d:=d) (w:=w+1) l;unfold e3;rw[bm];grind
    refine bf e [(19,f),(29,f)] a ?_ (g.aX (bT.zero a ?_))
    .simp only[U,x,u,bA,ba,a9];exact qW
    exact bw
   |true=>
    refine bf e [(19,f),(29,m)] a ?_ (g.aB (w+1) a ?_ ?_ ?_ ?_)
    .simp only[U,x,u,a7,show oj.bytes=16 from a,bA,ba,a9];exact qW
    .exact P7
    .exact P7
    .grind
    omega
  have aa:w=(d.getD b (0,[])).2.length:=y;have t:g9 d b w=dP (d.take (b+1)):=by rw[F,g9];grind[List.length_map]
  refine bf e [(19,m)] a bJ (g.aD ?_);rw[t];refine cG e a bJ (g.aB (b+1) a E ?_ ⟨l,t▸B⟩ y);simp
 .obtain rfl:b=c d:=y;rw[c9]at k⊢;refine bf e [(12,m)] a E (g.aD ?_);refine g.fV (dE:=[(3,a2.S (dP d))]) (ao:=[jo (dP d)]) ?_ a E a E;have I:∀n∈dP d,a7 .i64 n.1/\a7 .i64 n.2:=λn R=>by have:=List.all_eq_true.1 k n R;simp only[gv,cF,bA]at this;simp only[a7];omega
  have j:a8 r [(196,eY [qz (dP d)] (ax (eG (iT (dP d)))))]:=.cons (fo (IW (dP d) y I)) .nil;have aQ:(iT (dP d)).af=e3 d:=by unfold e3;rw[bs k];exact(MM (dP d) .nil bJ).1
  have D:c (e3 d)<=100000:=by have:=CI (dP d) [];unfold e3;grind
  rw[<-aQ]at D⊢;clear aQ;generalize iT (dP d)=s at *;have K:=IA (r:=r) s y
  cases s<;>(
   refine cG j a a (g.bQ K.tocD [] a a a a (by simp[eG]) a a a bl a bl a λ_=>?_)
   exact cG j a v (g.aw a))
def qu(b:p bE)(d:bE):Int:=match b.findIdx? (λe=>e==d)with
 |some a=>a
 |none=>-1
def ZO{d}{aa}(a:e<c d)(k:∀b,b<e->d.getD b []≠aa)(i:d.getD e []=aa):qu d aa=e:=by
 have:d.findIdx? (λg=>g==aa)=h e:=by rw[AD];refine⟨a,by grind,λb j=>?_⟩;grind
 simp[qu,this]
def ZQ{d}{aa}(e:∀a,a<c d->d.getD a []≠aa):qu d aa=-1:=by have:d.findIdx? (λb=>b==aa)=q:=wu;simp[qu,this]
def ZP(d)(aa):decide (0<=qu d aa)=d.contains aa:=by unfold qu;grind
def UQ(d)(aa):Y r 246 [bQ.S d,bZ aa] [] (S (qu d aa)) []:=by
 refine Y.K func246 rfl λn=>?_;have s:=n.S 0 a;refine aZ a v (g.aN 0 (λb=>b<=c d/\∀e,e<b->d.getD e []≠aa) (λb:Nat=>[(0,bQ.S d),(1,bZ aa),(7,S (c d)),(8,S b)]) (λ_=>[]) (λb=>c d-b) 0 a E a v a ⟨by omega,by omega⟩ ?_);rintro b ⟨p,i⟩;by_cases l:b<c d
 .have j:d.getD (b:Int).toNat bQ.I=d.getD b []:=rfl;by_cases k:d.getD b []=aa
  .rw[ZO l i k];refine a6 [(9,f),(16,f)] a ?_ (g.aX (bT.zero a));simp[U,j,bA,hd,ba,a9];and_intros<;>first|exact k.symm|omega
  refine a6 [(9,f),(16,m)] a ?_ (g.aB (b+1) a ?_ v ⟨l,λe o=>?_⟩ y)
  .simp only[U,j,a7,bA,eU,ba,a9];and_intros<;>first|grind|omega
  .simp
  grind
 rw[ZQ λe o=>i e y];exact Qe
abbrev Sh:bK:=ek (eX bQ) ez (λa b=>S (qu a b)) λ_ _=>[]
def UA(d)(aa):Y r 200 [bQ.S d,bZ aa] [] (bi (d.contains aa)) []:=by refine Y.K func200 rfl λe=>?_;have b:a8 r [(246,Sh)]:=.cons (.bl λd aa _=>UQ d aa) .nil;refine b_ b a (by simp[U];exact bQ.U _) (g.aw a ?_);simp only[U,bQ.E,a9];exact ZP d aa
abbrev GO:bK:=ek (eX bQ) ez (λa b=>bi (a.contains b)) λ_ _=>[]
def adA:bL r 200 GO:=.bl λa b _=>UA a b
def kL(b:p fr)(d:Nat):Bool:=(aD d).all λa=>gv (b.getD a (0,0))&&(a==0||decide ((b.getD (a-1) (0,0)).1<(b.getD a (0,0)).1))
theorem KA{d}:kL d (e+1)=(kL d e&&(gv (d.getD e (0,0))&&(e==0||decide ((d.getD (e-1) (0,0)).1<(d.getD e (0,0)).1)))):=by unfold kL;rw[List.range_succ,List.all_append];simp
def Ky{d}(i:kL d e=m):∀a,e<=a->kL d a=m:=by
 intro a g;obtain⟨b,rfl⟩:=Nat.exists_eq_add_of_le g;induction b with
 |zero=>exact i
 |succ b j=>grind[KA]
def UZ(d):Y r 195 [a2.S d] [] (bi (kL d (c d))) []:=by
 refine Y.K func195 rfl λp=>?_;have u:=p.S 0 a;have b:a8 r [(201,Bv)]:=.cons My .nil;refine b_ b a v (g.aN 0 (λe=>e<=c d/\kL d e=f) (λe:Nat=>[(0,a2.S d),(5,a2.S d),(6,S (c d)),(7,S e)]) (λ_=>[]) (λe=>c d-e) 0 a E a v a ⟨by omega,a⟩ ?_);rintro e ⟨s,l⟩;by_cases o:e<c d
 .have k:=KA (d:=d) (e:=e);rw[l,fm]at k;have j:d.getD (e:Int).toNat a2.I=d.getD e (0,0):=rfl;cases i:gv (d.getD e (0,0))with
  |false=>
   rw[Ky (e:=e+1) M (c d) y];refine a_ b [(8,f),(14,f),(29,f)] a ?_ (g.aX (bT.zero a));simp_all
  |true=>
  rw[i,fm]at k;by_cases t:e=0
  .subst t;refine a_ b [(8,f),(14,m),(17,m),(29,m)] a ?_ (g.aB 1 a E v ⟨o,k⟩ y);simp only[U,j,i,a7,bA,dt,ba,a9];exact qW
  have n:d.getD ((e:Int)-1).toNat a2.I=d.getD (e-1) (0,0):=by rw[show((e:Int)-1).toNat=e-1 by omega];rfl
  by_cases w:(d.getD (e-1) (0,0)).1<(d.getD e (0,0)).1
  .refine a_ b [(8,f),(14,m),(17,f),(29,m)] a ?_ (g.aB (e+1) a E v ⟨o,by grind⟩ y);simp only[U,j,n,i,a7,bA,dt,ba,a9];exact qW
  rw[Ky (e:=e+1) M (c d) y];refine a_ b [(8,f),(14,m),(17,f),(29,f)] a ?_ (g.aX (bT.zero a));simp only[U,j,n,i,a7,bA,ba,a9];exact qW
 obtain rfl:e=c d:=y;rw[l];refine a_ b [(8,m)] a E (g.aD ?_);exact b_ b a v (g.aw a)
def Vh(d):Y r 22 [aB.S d,aB.S d] [] (bi f) []:=by
 refine Y.K func22 rfl λb=>?_;have j:=b.S 0 a;refine a6 [(10,m)] a E (g.aN 0 (λe=>e<=c d) (λe:Nat=>[(0,aB.S d),(1,aB.S d),(5,S e)]) (λ_=>[]) (λe=>c d-e) 0 a E a E a y ?_);intro e i;by_cases k:e<c d
 .exact OB
 exact OS
abbrev xp:bK:=ek (eX aB) (eX aB) (λ_ _=>bi f) λa b=>[b=a]
def Eh:bL r 22 xp:=.bl λa b d=>by have:b=a:=d;subst this;exact Vh _
def Vi(d):Y r 87 [a2.S d,a2.S d] [] (bi f) []:=by
 refine Y.K func87 rfl λb=>?_;have j:=b.S 0 a;refine a6 [(10,m)] a E (g.aN 0 (λe=>e<=c d) (λe:Nat=>[(0,a2.S d),(1,a2.S d),(5,S e)]) (λ_=>[]) (λe=>c d-e) 0 a E a E a y ?_);intro e i;by_cases k:e<c d
 .exact OB
 exact OS
abbrev GV:bK:=ek (eX a2) (eX a2) (λ_ _=>bi f) λa b=>[b=a]
def adI:bL r 87 GV:=.bl λa b d=>by have:b=a:=d;subst this;exact Vi _
abbrev KF(a:ca):an:=.cells 91 [.c (.int .i64 a.1),.c (.S m 2 (c a.2) (bG.fn a.2))]
def Vj(b):Y r 88 [fz b,fz b] [] (bi f) []:=by
 refine Y.K func88 rfl λs=>?_;by_cases D:c b.2<=9223372036854775807
 .refine a6 [(10,m),(18,m)] a E (g.aN 2 (λd=>d<=c b.2) (λd:Nat=>[(2,aG 0 0),(3,aG 1 0),(5,S d)]) (λ_=>[KF b,KF b]) (λd=>c b.2-d) 0 a E a E a y ?_);intro d p;by_cases o:d<c b.2
  .refine bP [(24,f),(37,m)] a ?_ (g.aB (d+1) a ?_ ?_ ?_ ?_)
   .simp[a7,o];omega
   .simp
   .simp
   .grind
   omega
  refine bP [(24,m)] a bX (g.aD ?_);exact cr a v (g.aw a)
 exfalso;obtain⟨l,B,i,_⟩:=s;obtain⟨C,u⟩:∃w,bx [] l w (fz b):=by
  match B,i with
  |[j,_],i=>exact⟨j,i.1⟩
 obtain⟨t,_,e⟩:=u
 match t,e with
 |[j,n],e=>
  have:=e.2.1;cases(show Rd l.u n (.S m 2 (c b.2) (bG.fn b.2))from this)with
  |S x k z A F=>omega
abbrev GW:bK:=ek (jx bG) (jx bG) (λ_ _=>bi f) λa b=>[b=a]
def adJ:bL r 88 GW:=.bl λa b d=>by have:b=a:=d;subst this;exact Vj _
abbrev jS(a:eE):an:=.cells 106 [.c (.int .i64 a.1),.c (.S m 2 (c a.2) (cu.fn a.2))]
def Vk(l)(e:c l.2<=4000000):Y r 89 [iJ l,iJ l] [] (bi f) []:=by
 refine Y.K func89 rfl λi=>?_;have x:a8 r [(22,xp)]:=.cons Eh .nil;refine a_ x [(10,m),(18,m)] a E (g.aN 2 (λb=>b<=c l.2) (λb:Nat=>[(2,aG 0 0),(3,aG 1 0),(5,S b)]) (λ_=>[jS l,jS l]) (λb=>c l.2-b) 0 a E a E a y ?_);intro b d;by_cases j:b<c l.2
 .refine bf x [(24,f),(39,m),(53,f)] a ?_ (g.aB (b+1) a ?_ ?_ ?_ ?_)
  .simp only[U,a7,fX,gj,iB,bA,ba,a9];and_intros<;>first|exact aB.U _|omega
  .simp
  .simp
  .grind
  omega
 refine bf x [(24,m)] a bX (g.aD ?_);exact zL
abbrev GX:bK:=ek (jx cu) (jx cu) (λ_ _=>bi f) λb a=>[a=b,c a.2<=4000000]
def adK:bL r 89 GX:=.bl λa b e=>by obtain⟨rfl,d⟩:b=a/\_:=e;exact Vk _ d
abbrev za(a:cz):an:=.cells 27 [.c (.S m 2 (c a.1) (a1.fn a.1)),.c (.S m 2 (c a.2.1) (bj.fn a.2.1)),.c (.S m 2 (c a.2.2) (a2.fn a.2.2))]
def Vl(b)(e:dN b):Y r 47 [b9 b,b9 b] [] (bi f) []:=by
 refine Y.K func47 rfl λl=>?_;have x:a8 r [(87,GV),(88,GW),(89,GX)]:=.cons adI (.cons adJ (.cons adK .nil));have o:=e.a2;have n:=e.a7;refine bf x [(13,m),(21,m),(28,f)] a ?_ ?_
 .simp only[U,a7,fX,gj,iB,bA,ba,a9];and_intros<;>first|exact a2.U _|omega
 refine g.aN 2 (λd=>d<=c b.1) (λd:Nat=>[(2,aG 0 0),(3,aG 1 0),(5,S d)]) (λ_=>[za b,za b]) (λd=>c b.1-d) 0 a E a E a y ?_;intro d i;by_cases j:d<c b.1
 .refine bf x [(35,f),(48,f)] a ?_ (g.aB (d+1) a ?_ ?_ ?_ ?_)
  .simp only[U,a7,bA,ba,a9];and_intros<;>first|exact bG.U _|omega
  .simp
  .simp
  .grind
  omega
 refine bf x [(35,m)] a bX (g.aD ?_);refine cG x a v (g.aN 2 (λd=>d<=c b.2.1) (λd:Nat=>[(2,aG 0 0),(3,aG 1 0),(6,S d)]) (λ_=>[za b,za b]) (λd=>c b.2.1-d) 0 a E a E a y ?_);intro d i;by_cases j:d<c b.2.1
 .have w:=(e.bz _ (mw j (0,[]))).1;have k:b.2.1.getD (d:Int).toNat bj.I=b.2.1.getD d (0,[]):=M;refine bf x [(54,f),(67,f)] a ?_ (g.aB (d+1) a ?_ ?_ ?_ ?_)
  .simp only[U,a7,k,cu.E,bA,ba,a9];and_intros<;>first|exact cu.U _|omega
  .simp
  .simp
  .grind
  omega
 refine bf x [(54,m)] a bX (g.aD ?_);exact zL
end
def F0{d}:∀{i:Nat},c (fu d i)=i->∀a,1<=a->a<i->d.getD a 0≠d.getD (a-1) 0
 |0,_,a,_,b=>by omega
 |i+1,b,a,e,j=>by
  have g:=wZ d i;rw[fu]at b;split at b
  .omega
  rename_i k;simp only[dm,gU]at b;by_cases l:a=i
  .grind
  exact F0 (i:=i) y a e y
def L3(d):(jV d).Pairwise λa b=>a<=b:=by have:=List.pairwise_mergeSort (le:=λa b:Int=>decide (a<=b)) (λe g i j k=>by grind) (λe g=>by grind) d;exact this.imp λl=>by grind
def y9(d):(jV d).Perm d:=List.mergeSort_perm _ _
def SA(d):c (hG (jV d))=c d↔d.Nodup:=by
 rw[<-qL d,<-(y9 d).nodup_iff];have s:=L3 d;generalize jV d=j at *;have l:∀{b:Nat} (e:b<c j),j.getD b 0=j[b]:=λ{b} e=>by grind
 constructor
 .intro e;have o:=F0 e;refine List.Pairwise.imp (R:=λt u=>t<u) (λe r=>by omega) (oZ.2 λb g i a n=>?_);have k:=oZ.1 s;have p:=o g y a;rw[l a,l y]at p;have v:=k (g-1) g y a y;by_cases r:b=g-1
  .grind
  have:=k b (g-1) i y y;omega
 intro e;unfold hG;rw[ux (bC _),c9];exact E7
def L8(k A):∀(g:p Int)d(e:Bool),(e=f->k∈d) ->
  ((A∈(g.foldl (gb k) (d,e)).1∨(A=k/\(g.foldl (gb k) (d,e)).2=m))↔((A∈d∨(A=k/\e=m))∨A∈g))
 |[],d,e,_=>by simp
 |j::g,d,e,s=>by
  rw[j7];have i:∀a b,gb k (d,e) j=(a,b)->(b=f->k∈a)/\((A∈a∨(A=k/\b=m))↔((A∈d∨(A=k/\e=m))∨A=j)):=λa b o=>by unfold gb at o;grind
  cases l:gb k (d,e) j with
  |mk a b=>
   obtain⟨r,n⟩:=i a b l;rw[L8 k A g a b r,n,fl,or_assoc]
def aat{d}{b a:Int}:a∈e4 d b↔a∈d∨a=b:=by have:=L8 b a d [] m E;unfold e4;grind
def Da{A}:∀{b a:p Int},A∈b.foldl e4 a↔A∈a∨A∈b
 |[],a=>by simp
 |d::b,a=>by rw[j7,Da,aat,fl,or_assoc]
def Kc{d}{A}:A∈gF d↔A∈d_ d:=by unfold gF;rw[Da];simp
def Kb{A}:∀{e:p eE}{b:p Int},A∈e.foldl (λa d=>(gF d.2).foldl e4 a) b↔A∈b∨∃d∈e,A∈d_ d.2
 |[],b=>by simp
 |d::e,b=>by rw[j7,Kb,Da,Kc,or_assoc];simp
def vp{d}{A}:A∈h5 d↔∃a∈d,A∈d_ a.2:=by unfold h5;rw[Kb];simp
def Ka{d}{A}:∀{w:Nat},w<=c d->(A∈fu d w↔A∈d.take w)
 |0,_=>by simp[fu]
 |w+1,e=>by
  have b:=Ka (d:=d) (A:=A) (w:=w) y;rw[fu,ia y 0];split
  .rename_i s;rw[b,gk];constructor
   .exact .inl
   rintro(a|a)
   .exact a
   simp only[gW]at a;subst a;rw[s.2,al,bI y];exact AE.2 ⟨w-1,by simp;omega,by simp⟩
  grind
def yx{l}{A}:A∈fV l↔A∈d_ l.2:=by unfold fV hG;rw[Ka (bC _),c9];exact(y9 _).mem_iff
def aaq{d}{k:Int->Bool}:(h5 d).all k=(aD (c d)).all λe=>!(fV (d.getD e (0,[]))).any λb=>!k b:=by
 rw[oX,List.all_eq_true,fY];constructor
 .intro i e a;rw[j5,List.any_eq_false];intro b g;have:=i b (vp.2 ⟨_,og a,yx.1 g⟩);simp[this]
 intro i b g;obtain⟨o,n,l⟩:=vp.1 g;obtain⟨e,a,rfl⟩:=AE.1 n;have j:=i e a;rw[al,bI a,im,j5,List.any_eq_false]at j;simpa using j b (yx.2 l)
def ye{a:p α}(d:e<c a)(b:α):a.getD e b=a[e]:=M
def w8{ae:α->Int}{I}{d}:(∀a,a<c d->j_ ae I d a=f)↔d.Pairwise λo p=>ae o<ae p:=by
 constructor
 .intro k;have key:∀g a e (b:a<c d) (i:e<c d),e=a+g->0<g->ae d[a]<ae d[e]:=by
   intro g;induction g with
   |zero=>grind
   |succ g r=>
    intro a e b i l _;have n:=k e i;rw[p6 y,decide_eq_true_iff,ye y,ye i]at n;by_cases j:g=0
    .subst j;grind
    grind
  exact oZ.2 λa e b i l=>key (e-a) a e b i y y
 intro k a b;by_cases j:a=0
 .exact bJ
 rw[p6 j,decide_eq_true_iff,ye y,ye b];exact(oZ.1 k) (a-1) a y b y
def sz{d}{R:α->Bool}{I}:(∀a,a<c d->R (d.getD a I)=f)↔∀b∈d,R b=f:=by grind[List.mem_iff_getElem]
structure wF(i:Int)(R:ca):Prop where
 db:1<=R.1/\R.1<=99
 key:cK i=f
 len:1<=c R.2/\c R.2<=4
 jP:∀l∈R.2,right i l=f
 ic:R.2.Pairwise λl X=>l.1<X.1
def Dr{d}:h7 i d=f↔wF i d:=by
 rw[Ds];simp[cF,bA,fY];have l:(∀b,b<c d.2->h' i d b=f)↔(∀g∈d.2,right i g=f)/\d.2.Pairwise λg n=>g.1<n.1:=by
  rw[<-sz (I:=(0,[])),<-w8 (ae:=λg:cW=>g.1) (I:=(0,[]))];constructor
  .intro e;exact⟨λb a=>by have:=e b a;simp[h',cF]at this;exact this.1,λb a=>by have:=e b a;simp only[h',cF]at this;exact this.2⟩
  intro e b a;simp only[h',cF];exact⟨e.1 b a,e.2 b a⟩
 rw[l];constructor
 .rintro⟨⟨⟨s,k⟩,w⟩,j,C⟩;exact⟨s,k,w,j,C⟩
 rintro⟨s,k,w,j,C⟩;grind
structure nV(i:Int)(b:cz):Prop where
 c1:∀R∈b.1,wF i R
 dU:b.1.Pairwise λR bc=>R.1<bc.1
 ax:(dg b.1).Nodup
 a7:∀l∈b.2.1,(1<=l.1/\l.1<=20)/\(fc i l b.1).isSome=f
 dp:b.2.1.Pairwise λl X=>l.1<X.1
 key:cK i=f
 e8:g6 b.2.2=f
 len:c b.1<=20
def vT{b}:hS i b=f↔nV i b:=by
 unfold hS;simp[cF,bA,fY];have r:(∀e,e<c b.1->nC i b.1 e=f)↔(∀g∈b.1,wF i g)/\b.1.Pairwise λg t=>g.1<t.1:=by
  rw[<-w8 (ae:=λg:ca=>g.1) (I:=(0,[]))];have:(∀g∈b.1,wF i g)↔∀g∈b.1,h7 i g=f:=⟨λl g o=>Dr.2 (l g o),λl g o=>Dr.1 (l g o)⟩
  rw[this,<-sz (I:=(0,[]))];constructor
  .intro l;exact⟨λe a=>by have:=l e a;simp[nC,cF]at this;exact this.1,λe a=>by have:=l e a;simp[nC,cF]at this;exact this.2⟩
  intro l e a;simp[nC,cF];grind
 have u:(∀e,e<c b.2.1->lo i b e=f)↔(∀j∈b.2.1,(1<=j.1/\j.1<=20)/\(fc i j b.1).isSome=f)/\b.2.1.Pairwise λj v=>j.1<v.1:=by
  rw[<-w8 (ae:=λg:eE=>g.1) (I:=(0,[]))];have:(∀j∈b.2.1,(1<=j.1/\j.1<=20)/\(fc i j b.1).isSome=f)↔∀j∈b.2.1,(decide (1<=j.1/\j.1<=20)&&(fc i j b.1).isSome)=f:=M;rw[this,<-sz (I:=(0,[]))];constructor
  .intro l;exact⟨λe a=>by have:=l e a;simp[lo,cF]at this⊢;grind,λe a=>by have:=l e a;simp[lo,cF]at this;exact this.1.2⟩
  intro l e a;have n:=l.1 e a;simp[lo,cF]at n⊢;grind
 rw[r,u];constructor
 .rintro⟨⟨⟨⟨⟨⟨n,C⟩,k⟩,w,A⟩,s⟩,d⟩,p⟩;exact⟨n,C,k,w,A,s,d,p⟩
 rintro⟨n,C,k,w,A,s,d,p⟩;grind
structure oS(i:Int)(Q:dT):Prop extends nV i Q.1 where
 hs:∀l∈Q.1.2.1,∀k∈d_ l.2,k∈Q.2.1
 hn:∀k∈Q.2.2,∃R∈Q.1.1,R.1=k
 jh:Q.2.2.Pairwise λl X=>l<X
def ze{a}:g_ i a=f↔oS i a:=by
 unfold g_;simp only[cF,vT,fY];have p:(h5 a.1.2.1).all (λb=>a.2.1.contains b)=f↔∀k∈a.1.2.1,∀b∈d_ k.2,b∈a.2.1:=by
  rw[List.all_eq_true];constructor
  .intro g k w b n;simpa using g b (vp.2 ⟨k,w,n⟩)
  intro g b n;obtain⟨k,w,n⟩:=vp.1 n;grind
 have r:(∀e,e<c a.2.2->nu a.1.1 a.2.2 e=f)↔(∀b∈a.2.2,∃l∈a.1.1,l.1=b)/\a.2.2.Pairwise λk t=>k<t:=by
  rw[<-w8 (ae:=λb:Int=>b) (I:=0)];have:(∀b∈a.2.2,∃l∈a.1.1,l.1=b)↔∀b∈a.2.2,(a.1.1.any λl=>l.1==b)=f:=E;rw[this,<-sz (I:=0)];constructor
  .intro g;exact⟨λe d=>by have:=g e d;simp only[nu,cF]at this;exact this.1,λe d=>by have:=g e d;simp[nu,cF]at this;exact this.2⟩
  intro g e d;simp[nu,cF];grind
 rw[p,r];constructor
 .rintro⟨⟨o,j,C⟩,s⟩;exact⟨s,o,j,C⟩
 rintro⟨s,o,j,C⟩;grind
def iP(b:Int)(a:p Int)(d:ca):ca:=if d.1=b then hy d a else d
def fd(b:Int)(a:p Int)(d:p ca):p ca:=(d.map (iP b a)).filter λe=>!e.2.isEmpty
def jq(a:dT):dT:=match a.2.2 with
 |[]=>a
 |b::d=>((fd b a.2.1 a.1.1,a.1.2),a.2.1,d)
def XW{d:p cW}{a:p Int}{k}(e:k∈a):(d.filter λb=>a.contains b.1).find? (λb=>b.1==k)=d.find? (λb=>b.1==k):=M
def aa4{bR:Int}{a:p Int}{R}{k}(b:k∈a):gp i (iP bR a R) k=gp i R k:=by
 unfold iP;split
 .simp only[gp,hy,XW b]
 simp
def I6{i bR}{cp}{k}(b:k∈cp):∀a:p ca,dL i (fd bR cp a) k=dL i a k
 |[]=>rfl
 |R::a=>by
  have g:=I6 (i:=i) (bR:=bR) b a;have e:=aa4 (i:=i) (bR:=bR) (R:=R) b;unfold fd dL at *;rw[mg,sr];split
  .grind
  rename_i d;have d:(iP bR cp R).2=[]:=M;have:gp i R k=q:=by rw[<-e];unfold gp;grind
  grind
def XQ{ab dq}{a}(d:∀b∈a,dL i ab b=dL i dq b):h2 i ab a=h2 i dq a:=by unfold h2;grind[List.map_congr_left]
def acv{ab dq}{l}(d:∀a∈d_ l.2,dL i ab a=dL i dq a):fc i l ab=fc i l dq:=by
 have s:∀b∈l.2,hh i ab b=hh i dq b:=λb j=>by unfold hh;rw[XQ λa x=>d a (List.mem_flatMap.2 ⟨b,j,x⟩)]
 unfold fc fH;grind[List.map_congr_left]
theorem yr{bR}{cp}{a}:(iP bR cp a).1=a.1:=by unfold iP hy;split<;>rfl
theorem C3{bR}{cp}{R}:List.Sublist (iP bR cp R).2 R.2:=by unfold iP hy;split<;>simp
def Mc{bR}{cp}{ab}{a}(b:a∈fd bR cp ab):∃d∈ab,a=iP bR cp d/\a.2≠[]:=by unfold fd at b;grind
def Km{bR}{cp}:∀a:p ca,List.Sublist (dg (fd bR cp a)) (dg a)
 |[]=>.refl _
 |d::a=>by
  have b:=Km (bR:=bR) (cp:=cp) a;unfold fd dg at *;rw[mg,sr,sm];split
  .rw[sm];exact(C3.map _).append b
  grind
def oS.step{b}(d:oS i b):oS i (jq b):=by
 unfold jq;split
 .exact d
 rename_i bR y o;have t:=d.hn;have s:=d.jh;rw[o]at t s;have w:∀e∈b.1.2.1,fc i e (fd bR b.2.1 b.1.1)=fc i e b.1.1:=λe k=>acv λp g=>I6 (d.hs e k p g) _;refine⟨⟨λx u=>?_,?_,d.ax.sublist (Km _),λe k=>?_,d.dp,d.key,d.e8,?_⟩,d.hs,λp g=>?_,(iA.1 s).2⟩
 .obtain⟨R,l,rfl,r⟩:=Mc u;have j:=d.c1 R l;have n:=C3 (bR:=bR) (cp:=b.2.1) (R:=R);refine⟨by rw[yr];exact j.db,j.key,⟨AA.2 r,fF n.length_le j.len.2⟩,λe k=>j.jP e (n.subset k),j.ic.sublist n⟩
 .show (fd bR b.2.1 b.1.1).Pairwise _;unfold fd;refine List.Pairwise.filter _ (wQ.2 (d.dU.imp λv=>?_));grind[yr]
 .have:=d.a7 e k;grind
 .show (c (fd bR b.2.1 b.1.1))<=20;have:c (fd bR b.2.1 b.1.1)<=c b.1.1:=by unfold fd;grind
  exact fF this d.len
 obtain⟨R,l,rfl⟩:=t p (m6 _ g);have r:R.1≠bR:=by grind[List.pairwise_cons]
 refine⟨R,?_,a⟩;show R∈fd bR b.2.1 b.1.1;unfold fd;refine kB.2 ⟨k2.2 ⟨R,l,by unfold iP;grind⟩,?_⟩;have:=(d.c1 R l).len.1;grind
def r1{o}(j:dR o=f):q8 o:=by
 obtain⟨l,_,_,u⟩:=Es.1 j;have r:∀a∈o,dZ a.2=f/\c a.2<=40:=λa d=>by have:=(l a d).2;simp[fC,cF,bA]at this;grind
 refine⟨by omega,λa d=>⟨(r a d).1,by grind⟩,?_⟩;have:∀b:p c',(∀a∈b,c a.2<=40)->c (eK b)<=40*c b:=by
  intro b;induction b with
  |nil=>exact bJ
  |cons a v k=>
   intro e;have g:=k λi n=>e i (m6 _ n);have s:=e a i';have t:=vB a.2;simp[eK,sm,dm,fj]at g⊢;omega
 grind
theorem aay(bR i)(ab):(kN bR i ab).2.length=c ab:=Db i ab
def w9{d:p eE}:∀a,d.Pairwise (λa g=>a.1<g.1)->(∀b∈d,a<=b.1/\b.1<=20)->(c d:Int)<=max 0 (21-a):=by
 induction d with
 |nil=>grind
 |cons b s i=>
  intro a l e;obtain⟨o,j⟩:=iA.1 l;have r:=e b i';have:=i (b.1+1) j λn k=>⟨by grind,(e n (m6 _ k)).2⟩
  grind
def KP(i):∀g a(b:p bE),(∀e∈b,cC e=f)->∀k∈iv i g a b,∃x d,a<=x/\x<a+c (iv i g a b)/\0<c d/\c d<=4/\(∀e∈d,cC e=f)/\k=kN x i d
 |0,_,_,_,k,j=>by exact bJ
 |g+1,a,b,s,k,j=>by
  simp only[iv]at j⊢;split at j
  .rename_i n;rw[bs n];rcases fl.1 j with rfl|j
   .grind
   obtain⟨x,d,r,o,t⟩:=KP i g (a+1) (b.drop 4) (λe l=>s e (sj l)) k j;grind
  grind
def CJ{a:p α}(d:c a≠0)(b:α):a.getD (c a-1) b∈a:=mw y b
def Du(i):∀g a(b:p bE),∀e∈iv i g a b,a<=e.1
 |0,_,_,e,d=>by exact bJ
 |g+1,a,b,e,d=>by
  simp only[iv]at d;split at d
  .rcases fl.1 d with rfl|d
   .exact Int.le_refl _
   have:=Du i g (a+1) (b.drop 4) e d;omega
  grind
def KN(i):∀(d:Nat) (a:Int)(b:p bE),(iv i d a b).Pairwise λe g=>e.1<g.1
 |0,_,_=>by simp[iv]
 |d+1,a,b=>by
  simp[iv];split
  .refine iA.2 ⟨λk j=>?_,KN i d (a+1) (b.drop 4)⟩;have:=Du i d (a+1) (b.drop 4) k j;exact bJ
  simp
theorem aav{d}{l X}(a:X∈fB d l):X=l∨X∈d:=by
 induction d with
 |nil=>simp[fB]at a;grind
 |cons g e b=>
  simp only[fB]at a;grind
def aau{ab}{X}(d:X∈kl i ab):∃a∈ab,X=(e5 i a,fA a):=by
 have key:∀(ab:p bE) b,X∈ab.foldl (λe a=>fB e (e5 i a,fA a)) b->X∈b∨∃a∈ab,X=(e5 i a,fA a):=by
  intro ab;induction ab with
  |nil=>grind
  |cons a j g=>
   grind[aav]
 rcases key ab [] d with d|d
 .cases d
 grind
section
variable {r:ai V}
structure q9(b:cz):Prop where
 size:dN b
 hF:b.1.Pairwise λx j=>x.1<j.1
 num:∀l∈b.2.1,-4000000<=l.1/\l.1<=4000000
 aM:∀l∈b.2.2,1<=l.1/\l.1<=2
def Jy{b}(j:q9 b)(d):(∃a s,sb b d a s)∨pO b d:=by
 by_cases i:pO b d
 .exact .inr i
 refine .inl ?_;simp only[pO,Classical.not_forall,Classical.not_not]at i;obtain⟨a,e,l,v,w⟩:=i;refine⟨a,d.2.2.1.toNat,e,l,λg k u o=>?_,by omega,by omega⟩;have r:b.1.getD a (0,[])=b.1[a]:=M;have p:b.1.getD g (0,[])=b.1[g]:=M;rw[r]at l;rw[p]at o;rcases dY g a with n|t
 .have:=oZ.1 j.hF g a k e n;omega
 have:=oZ.1 j.hF a g e k y;omega
theorem Kz{d}(g:kL d (c d)=f):(∀b∈d,gv b=f)/\d.Pairwise λb i=>b.1<i.1:=by
 have j:=fY.1 g;have k:∀a,a<c d->∀e,e<a->(d.getD e (0,0)).1<(d.getD a (0,0)).1:=by
  intro a;induction a with
  |zero=>grind
  |succ a l=>
   grind
 grind[List.getElem_of_mem,List.pairwise_iff_getElem]
def X1(d):∀a:p fr,(a++d).Pairwise (λb e=>b.1<e.1)->d.foldl eu a=a++d:=by
 induction d with
 |nil=>grind
 |cons b i g=>
  grind[abu]
def aek{d}(g:kL d (c d)=f)(k):(iT d).find k=lc d k:=by obtain⟨a,b⟩:=MM d .nil bJ;have e:=X1 d [] (by grind[Kz]);rw[iT,CA b,a];exact eI (lc · k) e
def MO{o}(d:dR o=f):∀a∈o,fC a.2=f:=λa b=>((Es.1 d).1 a b).2
abbrev H3(a:p bE):z:=.q (.aq (.r 2 1 (c a) (bQ.fn a)))
def WZ(A C)(i)(o)(d)(l:cK i=f)(B:dR o=f)(N:kL d (c d)=f)(ad:c d<=4000000):
  Y r 161 [S i,bD.S o,a2.S d] (ie A C) (bQ.S (gu i o d)) (ie A C):=by
 refine Y.K func161 rfl λaM=>?_;have P:a8 r [(103,df c8 (λi=>bi (cK i)) λ_=>[]),(39,rl),(195,df (eX a2) (λd=>bi (kL d (c d))) λ_=>[])]:=.cons rW (.cons vZ (.cons (.bb λd _=>UZ d) .nil));refine bf P [(15,m),(20,m),(25,m)] a ?_ ?_
 .simp only[U,l,bD.E,a2.E,rZ,B,N];exact⟨a,a2.U _,a,bD.U _,a⟩
 have G:=Kz N;have Q:∀s∈d,a7 .i64 s.1/\a7 .i64 s.2:=λs a'=>by have:=G.1 s a';simp only[gv,cF,bA]at this;simp only[a7];omega
 have aQ:=aek N;have ae:=IW (r:=r) d ad Q;have V:∀n,Y r 198 [ax (eG (iT d)),S n] [] (S (lc d n)) []:=λn=>aQ n▸Uh (iT d) n
 clear aQ;generalize iT d=F at *;have t:a8 r [(196,eY [qz d] (ax (eG F)))]:=.cons (fo ae) .nil;cases F<;>(
  refine cG t a a (g.bP 8 9 1 a a ?_);refine g.dF 3 [0,7,29,30] (λb=>b<=c o) (λb:Nat=>[(8,H3 ((eK (o.take b)).foldl (fb i d) [])),(31,S b)]) (λb=>ie A C++[.r 9 1 (c ((eK (o.take b)).foldl (fb i d) [])) (bQ.fn ((eK (o.take b)).foldl (fb i d) []))]) (λb=>c o-b) 0 a ?_ a ?_ a y ?_
  .simp[eK]
  .simp[eK]
  intro b Z;by_cases X:b<c o
  .have L:o.getD (b:Int).toNat bD.I=o.getD b ([],[]):=M;have I:o.getD b ([],[])∈o:=M;have ai:=MO B _ I;have w:=F6 X;have H:=F5 o (b+1);have D:=r1 B;have W:=(D.fi _ I).1;have ag:=D.all;have ah:=D.len;have R:=vC W;generalize o.getD b ([],[])=j at *;rw[w,dm]at H;have T:k8 j.2=cx j.2:=by unfold k8;grind
   have u:a8 r [(197,df ez (λaa=>bQ.S (k8 aa)) λ_=>[])]:=.cons Ef .nil;refine bf u [(32,f)] a bw ?_;rw[L,T];refine g.dF 4 [0,7,29,30,31,37,38] (λe=>e<=c (cx j.2)) (λe:Nat=>[(8,H3 ((eK (o.take b)++(cx j.2).take e).foldl (fb i d) [])),(39,S e)]) (λe=>ie A C++[.r 9 1 (c ((eK (o.take b)++(cx j.2).take e).foldl (fb i d) [])) (bQ.fn ((eK (o.take b)++(cx j.2).take e).foldl (fb i d) [])),.cells 46 [.c (.V j.1),.c (.V j.2)]]) (λe=>c (cx j.2)-e) 0 a E a E a y ?_;intro e ak;have z:=CH i d (eK (o.take b)++(cx j.2).take e) [];simp only[gz,dm,List.length_take]at z;by_cases aj:e<c (cx j.2)
   .have ab:(cx j.2).getD (e:Int).toNat bQ.I=(cx j.2).getD e []:=M;have O:cC ((cx j.2).getD e [])=f:=R _ M;have x:(eK (o.take b)++(cx j.2).take (e+1)).foldl (fb i d) []=fb i d ((eK (o.take b)++(cx j.2).take e).foldl (fb i d) []) ((cx j.2).getD e []):=ib;generalize(eK (o.take b)++(cx j.2).take e).foldl (fb i d) []=du at *;generalize(cx j.2).getD e []=p at *;have a':=bQ.a0 du p;refine bP [(40,f)] a bw ?_;rw[ab];refine g.aF (Cg A C i p l O) [0,1] a (g.aF (V _) [] a ?_);have k:a8 r [(200,GO)]:=.cons adA .nil;by_cases K:lc d (e5 i p)=0
    .cases ar:du.contains p with
     |true=>
      rw[fb,bm M]at x;refine bf k [(49,f),(54,m)] a ?_ (g.aB (e+1) a ?_ ?_ ?_ ?_)
      .simp only[U,K,ar,a7,bQ.E,fX,bA,ba,a9];exact Px
      .rw[x];simp
      .rw[x];simp
      .grind
      omega
     |false=>
      rw[fb,bs M]at x;refine bf k [(49,f),(54,f)] a ?_ (g.aB (e+1) a ?_ ?_ ?_ ?_)
      .simp only[U,K,ar,a7,show s3.bytes=16 from a,bQ.E,fX,bA,ba,a9];exact Px
      .exact Qp
      .exact Qp
      .grind
      omega
    rw[fb,bm M]at x;refine bf k [(49,m)] a bJ (g.aB (e+1) a ?_ ?_ ?_ ?_)
    .rw[x];simp
    .rw[x];simp
    .grind
    omega
   have J:e=c (cx j.2):=y;refine bP [(40,m)] a bw (g.aD ?_);refine cr a bJ (g.aB (b+1) a ?_ ?_ ?_ ?_)
   .rw[w,J,c9];simp
   .rw[w,J,c9];simp
   .grind
   omega
  .obtain rfl:b=c o:=y;rw[c9];refine bP [(32,m)] a E (g.aD ?_)
   refine cr a v (g.aS [0,1] a ?_ ql);simp[gu,eK])
abbrev adW(a:ca×Bool):z:=.Q [.agg [.c (.int .i64 a.1.1),.c (.S m 2 (c a.1.2) (bG.fn a.1.2))],.aq (.c (.bool a.2))]
def gO(b:Int)(a:bE):cW:=(e5 b a,fA a)
def tj(a d:Int)(b:p bE):ca:=(a,l4 (b.map (gO d)))
def l1(a d:Int)(b:p bE):ca×Bool:=if h7 d (tj a d b)=f then(tj a d b,f)else((0,[]),m)
theorem yQ:∀b a,c (b.foldl hz a)=c a+c b
 |[],a=>by simp
 |d::b,a=>by rw[j7,yQ b,Le,fj];omega
def MV:∀d{b:p cW}{e:Nat},gg b->e<c b->gg (iU d b e)
 |0,_,_,a,_=>a
 |d+1,b,e,a,g=>by
  rw[iU];split
  .exact a
  split
  .exact MV d (tF a y g) pK
  grind
theorem abn{d}{l}(b:gg d)(i:a7 .i64 l.1/\c l.2<=9223372036854775807):gg (hz d l):=by
 refine MV _ (λg e=>?_) E;rcases gk.1 e with a|a
 .exact b g a
 grind
def abe{d}(a:gg d)(b:0<c d):gg (g7 d):=
 B1 _ _ (tF a b y) pK pK
theorem Kg{a}(b:cC a=f):a7 .i64 (gO i a).1/\(gO i a).2.length<=9223372036854775807:=by
 have d:=b;simp only[cC,cF,bA]at d;have e:=su (fZ a*(2*i+1)+i*7919) (show(999999999989:Int)≠0 by decide);have g:=sl (fZ a*(2*i+1)+i*7919) (show(0:Int)<999999999989 by decide);refine⟨?_,?_⟩
 .show a7 .i64 (e5 i a);simp only[a7,e5];omega
 show c (fA a)<=_;unfold fA e1;grind
def JQ(i)(a:p bE)(g:∀d∈a,cC d=f):gg ((a.map (gO i)).foldl hz []):=by
 have:∀(b:p bE) e,(∀d∈b,cC d=f)->gg e->gg ((b.map (gO i)).foldl hz e):=by
  intro b;induction b with
  |nil=>grind
  |cons d k j=>grind[abn,Kg]
 exact this a [] g (by simp[gg])
abbrev K7(e d:av×Z)(g:Nat)(a:fg)(b:p cW):p an:=ie e d++[.cells 91 [.c (.int .i64 0),.c (.S f 0 0 λ_=>[])],io g a (c b),aE a (c b) b]
abbrev Dw(b:Int)(a:p cW):p an:=[.cells 91 [.c (.int .i64 b),.r 6 2 (c a) (bG.fn a)],.r 131 2 (c a) (bG.fn a)]
def IH(u t:av×Z)(bR i)(ab)(H:a7 .i64 bR)(b1:cK i=f)(K:∀w∈ab,cC w=f)(aw:c ab<=4):
  Y r 163 [S bR,S i,bQ.S ab] (ie u t) (adW (l1 bR i ab)) (ie u t):=by
 refine Y.bp bd func163 rfl rfl rfl λau=>?_;refine bP [(1000002,f)] a v (g.jF 8 3 131 2 a a λs ak=>?_);refine cr a v (g.dF 5 [0,1,6,8,14,15] (λj:Nat×fg=>j.1<=c ab) (λj=>[(16,S j.1)]) (λj=>K7 u t s j.2 (((ab.take j.1).map (gO i)).foldl hz [])) (λj=>c ab-j.1) (0,.nil ak) a E a ?_ a y ?_)
 .simp[gn]
 rintro⟨e,bN⟩ J;simp only at J;by_cases o:e<c ab
 .have G:ab.getD (e:Int).toNat bQ.I=ab.getD e []:=M;have aa:cC (ab.getD e [])=f:=K _ M;have L:((ab.take (e+1)).map (gO i)).foldl hz []=hz (((ab.take e).map (gO i)).foldl hz []) (gO i (ab.getD e [])):=ib;have an:c (((ab.take e).map (gO i)).foldl hz [])=e:=by grind[yQ]
  have I:=JQ i (ab.take e) λw R=>K w (hc R);generalize ab.getD e []=w at *;generalize((ab.take e).map (gO i)).foldl hz []=d at *;refine bf (.cons zi .nil:a8 r [(204,lF)]) [(17,f)] a bw ?_;rw[G];refine g.aF (Cg u t i w b1 aa) [0,1] a (cG (.cons zi .nil:a8 r [(204,lF)]) a v (g.a9 (UE s bN I y (l:=gO i w) (Kg aa)) [3,4] a bl λO=>?_));have X:=Le d (gO i w);refine cr a bJ (g.aB (e+1,O) a E dA M ?_);grind
 obtain rfl:e=c ab:=y;rw[c9];refine bP [(17,m)] a E (g.aD ?_);have ar:c ((ab.map (gO i)).foldl hz [])<=4:=by grind[yQ]
 have I:=JQ i ab K;have ae:l4 (ab.map (gO i))=[]++kP (c ((ab.map (gO i)).foldl hz [])) ((ab.map (gO i)).foldl hz []):=by rw[l4,yQ,p1,gz,cV]
 refine cr a v (g.cn 5 1 131 2 (bG.fn []) a a ?_);refine g.dF 7 [1,6,8,11] (λj:p cW×fg×p cW=>gg j.1/\c j.1+c j.2.2<=4/\l4 (ab.map (gO i))=j.2.2++kP (c j.1) j.1) (λj=>[]) (λj=>K7 u t s j.2.1 j.1++Dw bR j.2.2) (λj=>c j.1) ((ab.map (gO i)).foldl hz [],bN,[]) a E a E a ⟨I,by grind,ae⟩ ?_;rintro⟨o,bN,b⟩ ⟨Q,ag,C⟩;simp only at Q ag C;refine cr a v (g.aP (a0.dQ a a) a a ?_);refine g.aq (aT.eC bd 3 a a a a a (tC bN _) a) a ?_;refine g.aF (B_ bN (c o) o) [4] a ?_;by_cases aj:c o=0
 .rw[aj,kP,hY]at C;subst C;refine bP [(37,m)] a dA (g.aD ?_);have T:a8 r [(138,Br)]:=.cons Mu .nil;have aq:c (l4 (ab.map (gO i)))<=4:=y;cases ad:h7 i (tj bR i ab)with
  |false=>
   have x:h7 i (bR,l4 (ab.map (gO i)))=m:=ad;have F:l1 bR i ab=((0,[]),m):=by unfold l1;grind
   rw[F];refine bf T [(50,f)] a QB (g.cr () [0,1] ?_ ql);simp
  |true=>
   have x:h7 i (bR,l4 (ab.map (gO i)))=f:=ad;have F:l1 bR i ab=(tj bR i ab,f):=by unfold l1;grind
   rw[F];refine bf T [(50,m)] a QB (g.cr () [0,1] ?_ ql);simp[tj]
 obtain⟨k,B⟩:∃k,c o=k+1:=⟨c o-1,by omega⟩
 refine bP [(37,f),(1000009,f)] a bw (g.iP (Js (e:=4) (k:=c o) (bN:=bN) (d:=o) a y) λP=>?_);obtain⟨A,n,rfl,V⟩:=P;rw[B]at V;have R:=UD (r:=r) s A n Q B y V;have ai:=abe Q y;have X:c ((g7 o).take k)=k:=by grind[K8]
 have aM:l4 (ab.map (gO i))=(b++[(g7 o).getD k (0,[])])++kP k ((g7 o).take k):=by rw[C,B,kP,bm y,B];simp
 have ao:gg ((g7 o).take k):=λl D=>ai l (hc D);show g r _ _ _ _ _ (ie u t++[.cells 91 [.c (.int .i64 0),.c (.S f 0 0 λ_=>[])],io s (.row A n) (c o),aE (.row A n) (c o) o]++Dw bR b);rw[B];generalize(g7 o).getD k (0,[])=l at *;generalize(g7 o).take k=W at *;refine g.eF (ι:=Unit) b5 4 7 10 (λi=>ay i 3) (λi=>([aG 5 1,.q (.aq (.r 6 2 (c b) (bG.fn b))),g0 (.pointer (h ⟨s,0,q⟩)),sN s]:p z).getD i .any) (λ_ i=>([.any,.any,.any,.any,sM l,xK l,ax (.S f 2 1 λe=>([[.int .i64 l.1,.V l.2]]:p (p N)).getD e [])]:p z).getD i .any)
  (λ_=>ie u t++[.cells 91 [.c (.int .i64 0),.c (.S f 0 0 λ_=>[])],io s (.row A n) k,aE (.row A n) k W]++Dw bR b)
  rfl rfl rfl rfl rfl rfl rfl (λi o=>by have:=e' o;omega) rfl
  ⟨aT.y,aT.y,aT.y,aT.y,v,v,v,v,v,v,v⟩
  (λ_=>⟨aT.y,aT.y,aT.y,aT.y,v,aT.a1 (jZ a) (a0.ga (ah:=[.int .i64 l.1,.V l.2]) bd a a a a),aT.y,v⟩)
  (dx.dj R.tocD [3,4] a a a a a a a bl a bl) λ_=>?_
 have D:=bG.a0 b l;refine cr a ?_ (g.aB (W,.row A n,b++[l]) a ?_ ?_ ?_ ?_)
 .simp only[U,show lV.bytes=24 from a,ba];omega
 .simp
 .simp only[X,U.Y,U,dm,fj,gz,ba,a9];and_intros<;>first|exact bt.same|exact D|rfl
 .grind
 grind
abbrev ad6(a:eE):z:=.Q [.agg [.c (.int .i64 a.1),.c (.S m 2 (c a.2) (cu.fn a.2))],.aq (.c (.bool f))]
abbrev L2(e d:av×Z)(b:Int)(a:p mZ):p an:=ie e d++[.cells 106 [.c (.int .i64 0),.c (.S f 0 0 λ_=>[])],.cells 106 [.c (.int .i64 b),.r 4 2 (c a) (cu.fn a)],.r 142 2 (c a) (cu.fn a)]
abbrev acx(b:c')(a:p Int):p an:=[.cells 46 [.c (.V b.1),.c (.V b.2)],.cells 142 [.c (.V b.1),.r 7 1 (c a) (aB.fn a)],.r 3 1 (c a) (aB.fn a)]
def W0(C n)(bR i)(o)(ah:1<=bR/\bR<=99)(s:cK i=f)(x:dR o=f):
  Y r 164 [S bR,S i,bD.S o] (ie C n) (ad6 (gQ bR i o)) (ie C n):=by
 refine Y.bp bd func164 rfl rfl rfl λad=>?_;have G:a8 r [(103,df c8 (λi=>bi (cK i)) λ_=>[]),(39,rl)]:=.cons rW (.cons vZ .nil);refine bf G [(15,m),(19,m),(24,m),(29,m)] a ?_ ?_
 .simp only[U,s,bD.E,rZ,x,dt];and_intros<;>first|exact bD.U _|rfl|omega
 refine g.cn 3 1 142 2 (cu.fn []) a a ?_;refine g.dF 5 [1,6,8,33,34] (λb=>b<=c o) (λb:Nat=>[(35,S b)]) (λb=>L2 C n bR (ot i (o.take b))) (λb=>c o-b) 0 a E a E a y ?_;intro b K;by_cases ag:b<c o
 .have X:o.getD (b:Int).toNat bD.I=o.getD b ([],[]):=M;have A:o.getD b ([],[])∈o:=M;have D:=r1 x;have I:=D.fi _ A;have ab:=MO x _ A;have z:=D.len;have T:=vC I.1;have aa:=vB (o.getD b ([],[])).2;have B:ot i (o.take (b+1))=ot i (o.take b)++[oq i (o.getD b ([],[]))]:=ib;have O:c (ot i (o.take b))=b:=M;generalize o.getD b ([],[])=d at *;generalize ot i (o.take b)=j at *;have Z:k8 d.2=cx d.2:=by unfold k8;grind
  have w:a8 r [(197,df ez (λV=>bQ.S (k8 V)) λ_=>[])]:=.cons Ef .nil;refine bf w [(36,f)] a bw ?_;rw[X,Z];refine g.cn 6 1 3 1 (aB.fn []) a a ?_;refine g.dF 8 [1,6,8,10,11,33,34,35,44,45] (λe=>e<=c (cx d.2)) (λe:Nat=>[(46,S e)]) (λe=>L2 C n bR j++acx d (km i ((cx d.2).take e))) (λe=>c (cx d.2)-e) 0 a E a E a y ?_;intro e L;by_cases ae:e<c (cx d.2)
  .have k:(cx d.2).getD (e:Int).toNat bQ.I=(cx d.2).getD e []:=M;have R:cC ((cx d.2).getD e [])=f:=T _ M;have Q:km i ((cx d.2).take (e+1))=km i ((cx d.2).take e)++[e5 i ((cx d.2).getD e [])]:=ib;have H:c (km i ((cx d.2).take e))=e:=M;generalize(cx d.2).getD e []=t at *;generalize km i ((cx d.2).take e)=l at *;have u:=aB.a0 l (e5 i t);refine bP [(47,f),(1000011,f)] a bw ?_
   rw[k];refine g.gg b5 [aG 6 1,.q (.aq (.r 7 1 (c l) (aB.fn l))),S i,bZ t,S (e5 i t),ax (.S f 1 1 λb=>([[.int .i64 (e5 i t)]]:p (p N)).getD b [])] 6 a a a a a ⟨aT.y,aT.y,aT.y,aT.y,
    aT.dS (dx.dj (Cg C n i t s R).tocD [0,1] a a a a a a a bl a bl),aT.y,v⟩ ?_
   refine cr a ?_ (g.aB (e+1) a ?_ ?_ ?_ ?_)
   .simp only[U,a7,show ec.bytes=8 from a,ba,a9];exact fp
   .simp
   .simp only[Q,U.Y,U,dm,fj,gz,ba,a9];and_intros<;>first|exact bt.same|exactλ_ _=>rfl|exact u|rfl|omega
   .grind
   omega
  have W:e=c (cx d.2):=y;rw[W,c9];have u:=cu.a0 j (oq i d);have F:c j+1=c (j++[oq i d]):=E;have J:cu.a8 (oq i d)=[N.V d.1,N.S m 1 (c (km i (cx d.2))) (aB.fn (km i (cx d.2)))]:=rfl;rw[J,<-B]at u;rw[<-B]at F;refine bP [(47,m)] a E (g.aD ?_);refine cr a Qk (g.aB (b+1) a E ?_ ?_ ?_)
  .simp only[U.Y,U,ba,a9];and_intros<;>first|exact bt.same|exact u|exact F|rfl
  .grind
  omega
 obtain rfl:b=c o:=y;rw[c9];refine bP [(36,m)] a E (g.aD ?_);refine cr a v (g.cr () [0,1] ?_ ql);simp[gQ]
end
section
variable {r:ai V}[r.b']
abbrev FG(b:Nat):={a:p c'×Nat // dR a.1=f/\b<=a.2/\a.2<=b+400}
end
section
variable {r:ai V}
set_option maxRecDepth 20000 in
def V'(A)(b:Nat->Int)(k:Bytes b)(e:Nat)(i:e<=4000000)(j:A<=1048576)(d)(o:1<=c d/\c d<=1000):
  Y r 55 [aG 0 0,bQ.S d] [ef A b e] (bZ (d.getD (qG A b e (c d)).toNat [])) [ef A b (e+1)]:=by refine Y.K func55 rfl λl=>?_;refine aZ a v (g.aF (IK A b k e (c d) i j y) [0] a ?_);have n:=KX A b e (c d) y;exact aZ a bX (g.aS [0] a oL nf)
end
end R1
def bk.die{E:ai P}{I}{args}{W i}{F:Nat->p N}{l}{r:ι->Nat->p N}{S:ι->Nat}(J:bk E I args [.h W i k F] (λ_=>cy 0 l) (λA=>[.h W i (S A) (r A)])):Y E I args [.h W i k F] (cy 0 l) [.x]:=
 ⟨J.1,λT B z x Q o w=>J.2 T B z x Q o λA s K j y d g b=>w s K j y (by
  obtain⟨D,e,_,_⟩:cw _ _ _ (.R 0 l):=d;exact(⟨D,e,by simp,λ_ _ _ _ R=>by grind⟩:cw [.x] j K (.R 0 l))) g.dZ
  ⟨b.size,b.a6,b.mem,b.bF,b.bV,λC M L aE u=>by
   obtain⟨O,n,e,t,U⟩:=b.box C M L aE u;cases C with
   |zero=>simp at aE;subst aE;exact⟨.x,n,a,t,v⟩
   |succ C=>grind,b.os,b.tape,b.output,b.own⟩⟩
namespace R1
variable {r:ai V}
def Iu(b):Y r 145 [BV b] [] (bi (ht b)) []:=by
 refine Y.K func145 rfl λj=>?_;have d:a8 r []:=.nil;unfold ht;by_cases e:b.1=1
 .by_cases jE:1<=b.2
  .exact a_ d [(6,f),(11,f),(16,f)] a bw (g.aw a dA)
  exact a_ d [(6,f),(11,f),(16,m)] a bw (g.aw a t0)
 by_cases i:b.1=2
 .by_cases jE:1<=b.2
  .exact a_ d [(6,m),(11,f),(16,f)] a bw (g.aw a dA)
  exact a_ d [(6,m),(11,f),(16,m)] a bw (g.aw a t0)
 exact a_ d [(6,m),(11,m),(16,m)] a bw (g.aw a bw)
def VJ(b):Y r 144 [BV b] [] (bi (!ht b)) []:=by refine Y.K func144 rfl λe=>?_;have d:a8 r [(145,df pW (λb=>bi (ht b)) λ_=>[])]:=.cons (.bb λb _=>Iu b) .nil;exact b_ d a v (g.aw a)
def aah(d):g6 d=(decide (c d<=9)&&!d.any λa=>!ht a):=by
 have:(aD (c d)).all (λb=>ht (d.getD b (0,0)))=!d.any λa=>!ht a:=by rw[oX,fY,j5,List.any_eq_false];grind[List.mem_iff_getElem]
 rw[g6,this,Bool.and_comm]
def VK(d):Y r 106 [a2.S d] [] (bi (g6 d)) []:=by
 refine Y.K func106 rfl λj=>?_;have e:=Uu (r:=r) d 144 (λu=>!ht u) λi _=>VJ i;have b:a8 r [(143,eY [a2.S d,ax (.fn (.func 144) [] [])] (bi (d.any λu=>!ht u)))]:=.cons (fo e) .nil;rw[aah];by_cases u:c d<=9
 .exact a_ b [(6,f)] a ⟨a,fk y⟩ (g.aw a gT)
 exact a_ b [(6,m)] a bX (g.aw a bw)
def tG:bL r 106 n3:=.bb λa _=>VK a
def Wf(d)(l:c d.2<=4000000):Y r 185 [fz d] [] (aB.S (d.2.map (·.1))) []:=by
 refine Y.K func185 rfl λn=>?_;refine a6 [(1000002,f)] a v (g.bP 3 3 1 a a ?_);refine aZ a v (g.aN 2 (λb=>b<=c d.2) (λb:Nat=>[(1,aG 0 0),(3,.q (.aq (.r 1 1 b (aB.fn ((d.2.take b).map (·.1)))))),(7,bG.S d.2),(8,S (c d.2)),(9,S b)]) (λb=>[xn d,.r 3 1 b (aB.fn ((d.2.take b).map (·.1)))]) (λb=>c d.2-b) 0 a E a E a y ?_);intro b k;by_cases i:b<c d.2
 .have j:d.2.getD (b:Int).toNat bG.I=d9 d b:=M;have x:(d.2.take (b+1)).map (·.1)=(d.2.take b).map (·.1)++[(d9 d b).1]:=ib;have e:c ((d.2.take b).map (·.1))=b:=M;have aj:=aB.a0 ((d.2.take b).map (·.1)) (d9 d b).1;rw[e]at aj;refine a6 [(10,f)] a ?_ (g.aB (b+1) a ?_ ?_ i y)
  .simp only[U,a7,show ec.bytes=8 from a];grind
  .exact ON
  exact ON
 obtain rfl:b=c d.2:=y;rw[c9];refine a6 [(10,m)] a E (g.aD ?_);exact wn
abbrev G9:bK:=df (jx bG) (λa=>aB.S (a.2.map (·.1))) λa=>[c a.2<=4000000]
def adZ:bL r 185 G9:=.bb λb a=>Wf b a
def aaC(ab)(e):c (dg (ab.take e))<=c (dg ab):=by have:dg ab=dg (ab.take e)++dg (ab.drop e):=Ra;grind
abbrev abR(a:p Int):z:=cy 0 (.S (c a) 1 0 (c a))
def IG(ab)(p:∀j∈ab,c j.2<=4000000)(z:c (dg ab)<=4000000):Y r 139 [a1.S ab] [] (abR (dg ab)) [ja (c (dg ab)) (dg ab)]:=by
 refine Y.K func139 rfl λs=>?_;have w:=s.S 0 a;have d:a8 r [(185,G9)]:=.cons adZ .nil;refine a_ d [(1000002,f)] a v (g.fb 3 3 1 (aB.fn []) a ?_);refine b_ d a v (g.aN 1 (λb=>b<=c ab) (λb:Nat=>[(3,cy 0 (.S (c (dg (ab.take b))) 1 0 (c (dg (ab.take b))))),(6,a1.S ab),(7,S (c ab)),(8,S b)]) (λb=>[ja (c (dg (ab.take b))) (dg (ab.take b))]) (λb=>c ab-b) 0 a EM a (by simp[bt,dg]) a y ?_);intro b o;by_cases i:b<c ab
 .have C:ab.getD (b:Int).toNat a1.I=ab.getD b (0,[]):=M;have e:=Kn i;have k:=aaC ab (b+1);have x:=p _ (og (I:=(0,[])) i);generalize ab.getD b (0,[])=j at *;rw[e]at k;generalize dg (ab.take b)=l at *;have n:=aB.g' l (j.2.map (·.1)) _ a;simp only[dm,k0]at k n;refine a_ d [(9,f)] a ?_ (g.aB (b+1) a ?_ ?_ i y)
  .simp only[U,C,a7,bG.E,bG.U,k0,show ec.bytes=8 from a];grind
  .rw[e];simp only[U.Y,U,C,bG.E,dm,k0,ba,a9];and_intros<;>first|exact bt.same|rfl|omega
  rw[e];simp only[U.Y,U,C,bG.E,dm,k0,ba,a9];grind
 obtain rfl:b=c ab:=y;rw[c9];refine a_ d [(9,m)] a E (g.aD ?_);refine b_ d a v (g.aS [0] a ?_ (λu t=>absurd t E));simp
def V2(ab)(b:∀e∈ab,c e.2<=4000000)(d:c (dg ab)<=4000000):Y r 139 [a1.S ab] [] (aB.S (dg ab)) []:=
 Y.bO (aL:=[]) (W:=3) (i:=1) (k:=c (dg ab)) (T:=aB.fn (dg ab)) (IG ab b d) a E a (bC _)
end R1
namespace R1
section
variable {r:ai V}
def IO(b):Y r 102 [b9 b] [] (b9 b) []:=by refine Y.bE func102 rfl rfl rfl λe=>?_;refine aZ a E ?_;refine g.freeze 2 1 a a a ?_;exact g.cp bd [] a E a a a (λi d=>absurd d E)
abbrev Hd:bK:=df o1 (λa=>b9 a) λ_=>[]
def ad5:bL r 102 Hd:=.bb λa _=>IO a
abbrev y6(a:cz):an:=.cells 145 [.c (.S m 2 (c a.1) (a1.fn a.1)),.c (.S m 2 (c a.2.1) (bj.fn a.2.1)),.c (.S m 2 (c a.2.2) (a2.fn a.2.2))]
structure nU(b:cz):Prop extends pS b where
 c1:∀R∈b.1,c R.2<=4000000
 e9:c (dg b.1)<=4000000
def tk(b:Int)(a:cz):Bool:=(aD (c a.1)).all (nC b a.1)&&decide (c a.1<=20)&&decide (dg a.1).Nodup
def Wi(i)(b)(b1:cK i=f)(n:nU b):Y r 104 [b9 b,S i] [] (bi (tk i b)) []:=by
 refine Y.K func104 rfl λX=>?_;have z:=n.fN;have R:=n.c1;have T:=V2 (r:=r) b.1 n.c1 n.e9;have p:a8 r [(138,Br)]:=.cons Mu .nil;refine b_ p a v ?_;unfold tk;refine g.aN 1 (λe=>e<=c b.1/\∀C,C<e->nC i b.1 C=f) (λe:Nat=>[(1,S i),(2,aG 0 0),(9,a1.S b.1),(10,S (c b.1)),(11,S e)]) (λ_=>[y6 b]) (λe=>c b.1-e) 0 a E a E a ⟨by omega,by omega⟩ ?_;rintro e ⟨Q,w⟩;by_cases u:e<c b.1
 .have bz:b.1.getD e a1.I=b.1.getD e (0,[]):=rfl;have o:b.1.getD (e-1) a1.I=b.1.getD (e-1) (0,[]):=rfl;have x:nC i b.1 e=(h7 i (b.1.getD e (0,[]))&&j_ (·.1) (0,[]) b.1 e):=rfl;have J:=p6 (ae:=λs:ca=>s.1) (I:=(0,[])) (d:=b.1) (e:=e);have j:=R _ (og (I:=(0,[])) u);generalize b.1.getD e (0,[])=s at *;generalize b.1.getD (e-1) (0,[])=A at *;cases t:h7 i s with
  |false=>
   rw[t,sv]at x;refine a_ p [(12,f),(20,f),(35,f)] a ?_ (g.aX (bT.zero a ?_))
   .simp[-al,bz,b1,j,t,bG.E,bG.U];omega
   rw[kC u x];simp
  |true=>
   rw[t,fm]at x;by_cases K:e=0
   .subst K;refine a_ p [(12,f),(20,m),(23,m),(35,m)] a ?_ (g.aB 1 a E E ⟨u,iD w bJ⟩ y);simp[-al,bz,b1,j,t,bG.E,bG.U,a7];omega
   have J:=J K;by_cases N:A.1<s.1
   .refine a_ p [(12,f),(20,m),(23,f),(33,m),(35,m)] a ?_ (g.aB (e+1) a E E ⟨u,iD w M⟩ y);exact PM
   refine a_ p [(12,f),(20,m),(23,f),(33,f),(35,f)] a PM (g.aX (bT.zero a ?_));exact j0
 obtain rfl:e=c b.1:=y;rw[fY.2 w,fm];refine a_ p [(12,m)] a E (g.aD ?_);refine b_ p a v (g.aF (IG b.1 n.c1 n.e9) [] a (b_ p a v (g.aF (Cl (dg b.1) n.e9) [1] a ?_)));have W:=SA (dg b.1);have F:=(Ik (r:=r) (jV (dg b.1)) (by rw[qL];exact n.e9)).die;rw[qL]at F;have V:=HC (jV (dg b.1));rw[qL]at V;have O:=n.e9;generalize hG (jV (dg b.1))=k at *;generalize jV (dg b.1)=B at *;have iq:a8 r [(141,k4 [dJ (c (dg b.1))] [ja (c (dg b.1)) B] (cy 0 (.S (c (dg b.1)) 1 0 (c k))) [.x]),(139,eY [a1.S b.1] (aB.S (dg b.1)))]:=.cons (l5 F) (.cons (fo T) .nil);refine a_ iq [(1000009,f)] a v ?_;by_cases aa:c b.1<=20
 rotate_left
 .refine a_ iq [(46,m)] a bX (g.aw a ?_);exact bw
 have D:(c b.1:Int)<=20:=y;generalize Z:dg b.1=l at *;refine g.df (ι:=Unit) b5 6 (λe=>match ay e 5 with|true=>f|false=>match af e 8 with|true=>f|false=>af e 9) (λe=>[aG 0 0,a1.S b.1,S (c b.1),bi (decide ((c b.1:Int)<=20)),bi f,cy 1 (.S (c l) 1 0 (c l)),.any,.any,aG 0 0,a1.S b.1].getD e .any)
  (λ_ e=>[.any,.any,.any,.any,.any,.any,cy 1 (.S (c l) 1 0 (c k)),S (c k),.any,.any,aB.S l,S (c l),bi ((c k:Int)==c l),bi ((c k:Int)==c l),bi ((c k:Int)==c l)].getD e .any) (λ_=>[y6 b,.x]) a a a a a a ?_ ?_ ?_ ?_
 .exact⟨.y,.y,.y,.y,.eval bd iq (bg:=[(46,f)]) a (fk D),.y,v,v,.y,.y,v,v,v,v,v,v⟩
 .intro _;exact⟨.y,.y,.y,.y,.eval bd iq (bg:=[(46,f)]) a (fk D),.y,v,.y,.y,.y,.eval bd iq (bg:=[]) a a,.y,.y,.y,.y,v⟩
 .exact .dg (ee bd iq (bg:=[]) (ao:=h [y6 b,.x]) a ⟨a,a⟩)
 intro _;refine b_ iq a v (g.aw a ?_);have:((c k:Int)==c l)=decide l.Nodup:=M;exact bJ
def iu:p (Int×Int)->N
 |[]=>.bc
 |a::b=>.O [.int .i64 a.1,.int .i64 a.2,iu b]
abbrev vR(a:p (Int×Int)):N:=.S m 2 (c a) (a2.fn a)
def To(b:p (Int×Int)):Y r 192 [a2.S b] [] (ax (.fn (.func 241) [] [.O [vR b]])) []:=by refine Y.K func192 rfl λd=>?_;refine gI [] 5 a v ?_;refine g.freeze 1 0 a a a ?_;refine aZ a v (g.aw a ?_);rfl
def Tt(k:p (Int×Int))(x:c k<=4000000){d:Nat}{b:bH}{n:Loop}{s:an}(l:Nat->an)(t:s=l (c k))(aE:∀w,l w≠.bn)(e:∀i,i<c k->iy (ι:=Unit) r 1 [S i,.q (.agg [.c (.int .i64 (k.getD i (0,0)).1),.c (.int .i64 (k.getD i (0,0)).2)])] [l (i+1),.loop d b n] f (λ_=>[l i,.loop d b n])):
  bk (ι:=Unit) r 241 [.q (.aq (.aQ 1)),ax (.O [vR k])] [s,.loop d b n] (λ_=>.Q []) (λ_=>[l 0,.loop d b n]):=by
 subst t;refine bk.bR func241 rfl rfl rfl (g.aW ?_);refine aZ a tQ ?_;show bY r _ (.loop _) _ _ _;refine bY.loop (bq:=Nat) (λj=>j<=c k) (λj=>[(0,.q (.aq (.aQ 1))),(1,ax (.O [vR k])),(3,S ((j:Int)-1))]) (λj=>[l j,.loop d b n]) (λj=>j) (c k) (bC _) (eC a E) a ?_;intro j o;rcases j with _|i
 .refine g.aW ?_;refine a6 [(8,m)] a E (g.fF a a ?_);exact⟨(),.inr a,a,qD (aE 0) (qD E a),[],.Q [],[],a,a,a,v⟩
 have u:(((i+1:Nat):Int)-1)=(i:Int):=y;rw[u];refine g.aW ?_;refine a6 [(8,f)] a ?_ ?_
 .simp only[U,bA,ba,a9];omega
 refine g.yield (e i o) a a a a a a λ_=>?_;exact a6 [(18,m)] a Q7 ⟨i,by omega,by omega,eC a E,a⟩
def H7{a:p (Int×Int)}(b:e<c a):a.drop e=a.getD e (0,0)::a.drop (e+1):=Fq
def Iz(b:p (Int×Int))(j:c b<=4000000):Y r 147 [a2.S b] [] (ax (iu b)) []:=by
 refine(bk.e3 (ι:=Unit) (ao:=λ_=>[]) (res:=λ_=>ax (iu b)) func147 rfl rfl rfl λn=>?_).toY;have e:a8 r [(192,eY [a2.S b] (ax (.fn (.func 241) [] [.O [vR b]])))]:=.cons (fo (To b)) .nil;refine db.seq (bY.bA (g.aW ?_));refine b_ e a v (db.seq (bY.bA (g.aW ?_)));refine b_ e a v (db.seq (db.seq (bY.bA (g.aW ?_))));refine b_ e a a (db.block ?_);have i:iu (b.drop (c b))=.bc:=by rw[ss];rfl
 refine db.rangeFunc (o3:=e0 [.O [vR b]]) (bV.callee a) (Tt b j (λd=>.cells 185 [.c (iu (b.drop d))]) (by rw[i];rfl) E ?_) (λd=>⟨a,by simp⟩) λd=>⟨.normal,a,?_⟩
 .intro d bp;refine iy.cI (br:=λ_=>[.cells 140 [.c (.int .i64 (b.getD d (0,0)).1),.c (.int .i64 (b.getD d (0,0)).2)],.x]) ?_ bl (λ_ w l aE=>?_)
  .rw[H7 bp];generalize b.drop (d+1)=k;cases k<;>(
    refine iy.intro (w:=q) a a a a (g.aW ?_);refine aZ a v ?_;refine⟨a,a,g.aW ?_⟩;refine gI [] 1 a v ?_;refine g.region ?_;refine gI [] 4 a v ?_;refine g.eZ 13 3 a a a ?_;refine aZ a v ?_;refine⟨a,a,(),jN a ?_⟩;simp[iu])
  .match w,aE with
   |0,aE=>cases aE;exact .inl ⟨_,_,a,a⟩
   |1,aE=>exact .inr (.inl aE)
   |w+2,aE=>simp at aE
 .show db r _ _ _ _ _;refine bY.bA (g.aW ?_);rw[List.drop_zero];cases b<;>(
   refine aZ a v ?_;refine g.ret ⟨(),bT.zero a ?_⟩;simp[iu])
abbrev ady(a:p (Int×Int))(b:Bool):z:=.Q [.aq (.c (.S m 2 (c a) (a2.fn a))),.aq (.c (.bool b))]
def VI(d)(l)(i:g6 d=f)(j:ht l=f)(o:c d<=9):Y r 165 [a2.S d,o6 l.1 l.2] [] (ady (if c d=9 then d else d++[l]) (decide (c d≠9))) []:=by
 refine Y.K func165 rfl λn=>?_;have b:a8 r [(106,n3),(145,df pW (λe=>bi (ht e)) λ_=>[])]:=.cons tG (.cons (.bb λe _=>Iu e) .nil);refine a_ b [(9,m),(14,m)] a ?_ ?_
 .simp only[U,a2.E,i,j,gj,ba,a9];first|exact a2.U _|(and_intros<;>first|rfl|exact a2.U _)
 refine g.aF (Ih d y) [] a ?_;by_cases x:c d=9
 .exact a_ b [(19,f)] a oM Oh
 refine a_ b [(19,m)] a ?_ ?_
 .simp only[U,show s0.bytes=16 from a,eU,ba,a9];exact qW
 have k:=a2.a0 d l;refine g.fV (dE:=[(4,cy 1 (.S (c d+1) 2 0 (c d+1))),(5,bi f)]) (ao:=[.cells 140 [.c (.int .i64 l.1),.c (.int .i64 l.2)],.h 140 2 (c d+1) (a2.fn (d++[l]))]) ?_ a nK a bJ;exact Oh
def Vf(d)(e:c d<=4000000):Y r 193 [a1.S d] [] (S (if c d=0 then 0 else(d.getD (c d-1) (0,[])).1)) []:=by
 refine Y.K func193 rfl λi=>?_;by_cases u:c d=0
 .rw[bs u];exact a6 [(5,f)] a gT (g.aw a)
 have b:d.getD ((c d:Int)-1).toNat a1.I=d.getD (c d-1) (0,[]):=by rw[show((c d:Int)-1).toNat=c d-1 by omega];rfl
 rw[bm u];refine a6 [(5,m)] a ?_ (g.aw a dA);simp only[U,b,a7,eU,ba,a9];exact fp
def kI(a:Int)(d:p (Int×Int)):Int:=d.foldl (λa b=>max a (b.2+1)) a
def Ju(d):∀a b:Int,kI (max a b) d=max a (kI b d):=by
 induction d with
 |nil=>intro a b;rfl
 |cons g e i=>
  intro a b;show kI (max (max a b) (g.2+1)) e=max a (kI (max b (g.2+1)) e);grind
def Yp{A}{d}(a:e<c d):kI A (d.take (e+1))=max (kI A (d.take e)) ((d.getD e (0,0)).2+1):=by unfold kI;grind[ia]
def kr(a:cz):Int:=if c a.2.1=0 then 1 else max 1 ((a.2.1.getD (c a.2.1-1) (0,[])).1+1)
def acI(b):kI (kr b) b.2.2=dF b:=by
 unfold kr dF;have a:kI 1 b.2.2=lS b.2.2:=rfl;split
 .exact a
 rw[show max 1 ((b.2.1.getD (c b.2.1-1) (0,[])).1+1)=max ((b.2.1.getD (c b.2.1-1) (0,[])).1+1) 1 by omega,Ju,a];omega
def V6(b)(i:dN b)(I:nT b):Y r 159 [b9 b] [] (.Q [.aq (.c (.int .i64 (dz b))),.aq (.c (.int .i64 (dF b)))]) []:=by
 refine Y.K func159 rfl λF=>?_;have t:=i.a2;have J:=i.a7;have O:=i.aM;have K:1<=kr b/\kr b<=4000001:=by
  unfold kr;split
  .omega
  exact Od
 apply g.cj [(1,aG 0 0),(4,S (kr b))] [jT b]
 .intro du;by_cases e:c b.2.1=0
  .exact bP [(12,m),(1000005,f)] a dA (du _ _ a (by simp[kr,e]))
  have D:=I.bm _ (mw (show c b.2.1-1<c b.2.1 by omega) (0,[]));have x:b.2.1.getD ((c b.2.1:Int)-1).toNat bj.I=b.2.1.getD (c b.2.1-1) (0,[]):=Q0;refine bP [(12,f)] a wo ?_;rw[x];refine g.aP (yw (kr b) a a a (by unfold kr;grind) bJ) a a ?_;exact bP [(1000005,f)] a v kv
 refine cr a v (g.aN 1 (λd=>d<=c b.2.2) (λd:Nat=>[(1,aG 0 0),(4,S (kI (kr b) (b.2.2.take d))),(24,a2.S b.2.2),(25,S (c b.2.2)),(26,S d)]) (λd=>[jT b]) (λd=>c b.2.2-d) 0 a ?_ a ?_ a y ?_)
 .simp[kI]
 .simp
 intro d o;have k:∀d,1<=kI (kr b) (b.2.2.take d)/\kI (kr b) (b.2.2.take d)<=4000001:=λd=>by have l:=sZ (b.2.2.take d) λB C=>I.aM B (hc C);have w:kI 1 (b.2.2.take d)=lS (b.2.2.take d):=rfl;rw[show kr b=max (kr b) 1 by omega,Ju,w];omega
 have l:=k d;have N:=k (d+1);by_cases e:d<c b.2.2
 .have D:=I.aM _ (mw e (0,0));have x:b.2.2.getD (d:Int).toNat a2.I=b.2.2.getD d (0,0):=M;have u:=Yp (A:=kr b) e;refine bP [(27,f)] a wo ?_;rw[x];refine g.aP (yw (kI (kr b) (b.2.2.take (d+1))) a a a u.symm nJ) a a ?_;refine cr a bJ (g.aB (d+1) a E ?_ e y);simp
 obtain rfl:d=c b.2.2:=y;rw[c9,acI]at l⊢;have j:dz b=(if c b.1=0 then 0 else(b.1.getD (c b.1-1) (0,[])).1)+1:=by unfold dz;split<;>rfl
 have n:-4000000<=dz b-1/\dz b-1<=4000000:=by
  rw[j];split
  .omega
  exact Qz
 have p:=Vf (r:=r) b.1 t;have s:=IO (r:=r) b;rw[j]at n⊢;generalize(if c b.1=0 then 0 else(b.1.getD (c b.1-1) (0,[])).1)=R at *;have z:a8 r [(102,eY [b9 b] (b9 b)),(193,eY [a1.S b.1] (S R))]:=.cons (fo s) (.cons (fo p) .nil);refine bP [(27,m)] a E (g.aD ?_);refine cG z a ?_ (g.aw a);exact bJ
abbrev qK(a:p bE):N:=.S m 1 (c a) (bQ.fn a)
def TE(d):Y r 160 [bQ.S d,S 4] [] (ax (.fn (.func 194) [] [.O [qK d],.O [.int .i64 4]])) []:=by refine Y.K func160 rfl λb=>?_;refine gI [] 6 a v ?_;refine g.freeze 2 0 a a a ?_;refine g.freeze 3 1 a a a ?_;exact a6 [(6,m)] a E (g.aw a nK)
def gC(b:p bE)(a:Nat):p bE:=(b.drop (4*a)).take 4
def TD(d)(W:c d<=4000000){j}{N0}{ih}{x yu}(A)(V:A<=(c d+3) / 4)(e:Nat->p an)(w)(Y:∀b,c (e b)=j)(Q:∀b,jO (e b++[.loop N0 ih x])=f)(N:jO (w++[.loop N0 ih yu])=f)(i:∀b,b<A->4*b<c d->iy (ι:=Unit) r j [bQ.S (gC d b)] (e b++[.loop N0 ih x]) f (λ_=>e (b+1)++[.loop N0 ih x]))(l:4*A<c d->iy (ι:=Unit) r j [bQ.S (gC d A)] (e A++[.loop N0 ih x]) m (λ_=>w++[.loop N0 ih yu])):
  bk (ι:=Unit) r 194 [.q (.aq (.aQ j)),ax (.O [qK d]),ax (.O [.int .i64 4])] (e 0++[.loop N0 ih x]) (λ_=>.Q []) (λ_=>if 4*A<c d then w++[.loop N0 ih yu]else e A++[.loop N0 ih x]):=by
 refine bk.bR func194 rfl rfl rfl (g.aW ?_);refine aZ a v ?_;show bY r _ (.loop _) _ _ _;refine bY.loop (bq:=Nat) (λb=>b<=A) (λb=>[(0,.q (.aq (.aQ j))),(1,ax (.O [qK d])),(2,ax (.O [.int .i64 4])),(4,S (4*b:Nat))]) (λb=>e b++[.loop N0 ih x]) (λb=>A-b) 0 (gX _) ?_ a ?_
 .exact .cons a (eC a E)
 intro b F;refine g.aW ?_;by_cases n:4*b<c d
 .have C:U (jc (c d) (h ((4*b:Nat):Int)) q):=by simp only[jc,U];omega
  have K:bS (c d) q-bS 0 (h ((4*b:Nat):Int))=c d-4*b:=bJ;refine a6 [(9,f),(1000003,f)] a bw ?_;let u:Nat->z:=λo=>([S 4,bQ.S d,S (4*b:Nat),ax (.S m 1 (bS (c d) q-bS 0 (h ((4*b:Nat):Int))) (fw (bS 0 (h ((4*b:Nat):Int))) (bQ.fn d))),S (bS (c d) q-bS 0 (h ((4*b:Nat):Int)):Nat),S (min 4 (c d-4*b):Nat),S (min 4 (c d-4*b):Nat)]:p z).getD o .any;refine g.cx b5 u (lP (λ_ _ _=>e b++[.loop N0 ih x]) 100 101 102) oL oL oL oL ?_ ?_
  .exact⟨.aE,
   .aE,
   .aE,
   cn.eJ a a a (λ_ _ _=>aT.eval (bg:=[]) bd a8.nil a C),
   .aE,
   cn.eJ a a a (λ_ _ _=>aT.a1 (λ_ _ _ _=>iV a) (yy _ a a a M nJ)),
   .aE,v⟩
  intro z X;show g r _ _ _ _ _ (e b++[.loop N0 ih x]);have R:(((4*b:Nat):Int)+((min 4 (c d-4*b):Nat):Int))=((4*b+min 4 (c d-4*b):Nat):Int):=y;refine aZ a tQ (g.aP (a0.jW bd a a a a (k:=c d) (T:=bQ.fn d) (eP:=m) (λ_ _ a'=>b6 a') a a a y y y y) a a ?_);have O:c (gC d b)=min 4 (c d-4*b):=by simp[gC]
  refine e9.le (dE:=[(0,.q (.aq (.aQ j))),(19,.q (.aq (.aQ j))),(1,ax (.O [qK d])),(2,ax (.O [.int .i64 4])),(4,S (4*b:Nat)),(28,bQ.S (gC d b))]) ?_ (.cons a (.cons a (eC a ?_)))
  .have I:(e b++[an.loop N0 ih x])[j]?=h (.loop N0 ih x):=M;rcases dY b A with B|B
   .refine g.yield (i b B n) a a a (N0:=N0) (ih:=ih) (a':=x) I a a λ_=>?_;exact a6 [(30,m)] a Q7 ⟨b+1,by omega,by omega,.cons a (eC a bw),a⟩
   obtain rfl:b=A:=y;refine g.yield (l n) a a a (N0:=N0) (ih:=ih) (a':=x) I a a λ_=>?_;exact a6 [(30,f)] a E (g.ret ⟨(),.inl a,(bs n).symm,by grind,[],.Q [],[],a,a,a,v⟩)
  simp only[U.Y,U,ba,a9];have J:((4*b:Nat):Int).toNat=4*b:=y;have D:(((4*b:Nat):Int)+((min 4 (c d-4*b):Nat):Int)).toNat-((4*b:Nat):Int).toNat=c (gC d b):=M;refine⟨D,λo t=>?_⟩;rw[D]at t;rw[J];show bQ.a8 (d.getD (4*b+o) bQ.I)=bQ.a8 ((gC d b).getD o bQ.I);congr 1;simp only[gC,al];grind
 obtain rfl:b=A:=y;refine a6 [(9,m)] a bw (g.fF a a ?_);exact⟨(),.inr a,(bm n).symm,by grind,[],.Q [],[],a,a,a,v⟩
def nk(d:Int)(b:cz)(e:p bE)(a:Nat):Bool:=(l1 (dz b+a) d (gC e a)).2&&!(c b.1+a==20)
def mP(b:Nat->Bool):Nat->Nat->Nat
 |0,a=>a
 |d+1,a=>if b a=f then mP b d (a+1)else a
def D8(d:Nat->Bool):∀b a,a<=mP d b a/\mP d b a<=a+b/\(∀e,a<=e->e<mP d b a->d e=f)/\(mP d b a<a+b->d (mP d b a)=m)
 |0,a=>⟨bC _,bC _,λe g i=>absurd g (by simp[mP]at i;omega),λj=>absurd j (by simp[mP])⟩
 |b+1,a=>by obtain⟨g,i,l,k⟩:=D8 d b (a+1);rw[mP];grind
def jn(b:Int)(g:cz)(d:p bE)(e:Nat):p ca:=(aD e).map λa:Nat=>(l1 (dz g+a) b (gC d a)).1
theorem C8(i)(b)(d)(k):c (jn i b d k)=k:=by simp[jn]
def aao(i)(b)(d)(k):jn i b d (k+1)=jn i b d k++[(l1 (dz b+(k:Nat)) i (gC d k)).1]:=by simp[jn,List.range_succ]
def KL{b}(a:nT b):-4000000<=dz b/\dz b<=4000001:=by
 unfold dz;split
 .omega
 rename_i d;have:=a.a2 _ (CJ d (0,[]));omega
def px(d:Int)(a:cz)(b:Int)(i:p c'):cz×Option bE:=
 let e:=gu d i (e3 a.1);let g:=mP (nk d a e) ((c e+3) / 4) 0
 if g<(c e+3) / 4 then(([],[],[]),h [112,97,99,107,115])
 else if 20<dF a then(([],[],[]),h [115,110,97,112,115,104,111,116,115])
 else if c a.2.2=9 then(([],[],[]),h [104,101,97,100,115])
 else((a.1++jn d a e g,a.2.1++[gQ (dF a) d i],a.2.2++[(b,dF a)]),q)
def Ta:Option bE->E1
 |none=>.aq (.c .bo)
 |some a=>.aq (.c (.cg 159 (.O [.V a])))
def MB(a:cz×Option bE):z:=.Q [.agg [.c (tv a.1.1),.c (tw a.1.2.1),.c (hQ a.1.2.2)],Ta a.2]
abbrev acX(d:cz)(a:Int)(e:p c')(b:p bE):bH:=[(2,S a),(3,bD.S e),(4,aG 2 0),(5,aG 3 0),(8,aG 4 0),(9,aG 5 0),(10,aG 9 0),(11,aG 10 0),(12,S (dF d)),(33,ax (.fn (.func 194) [] [.O [qK b],.O [.int .i64 4]]))]
abbrev vW(g e:av×Z)(j:Int)(b:cz)(i:N)(a:p ca)(d:Int):p an:=ie g e++[.cells 27 [.c (tv b.1),.c (tw b.2.1),.c (hQ b.2.2)],.cells 3 [.c (.int .i64 j)],.cells 27 [cB,cB,cB],.cells 156 [.c i],
 .h 91 2 (c a) (a1.fn a),.h 106 2 (c b.2.1) (bj.fn b.2.1),.x,.cells 27 [.R 6 (.S (c a) 2 0 (c a)),.R 7 (.S (c b.2.1) 2 0 (c b.2.1)),.c (hQ b.2.2)],.cells 3 [.c (.int .i64 d)]]
def Mi{s j}{b}{n l}{ab d}{bR a}{o g}(e)(k)(aE:(vW s j i b n ab bR++[.loop D F o])[e]?=h k):z9 12 (vW s j i b l d a++[.loop D F g]) e k:=by
 rcases e with _|_|_|_|_|_|_|_|_|_|_|_|e<;>first
  |(cases aE;exact .inl ⟨_,_,rfl,rfl⟩)
  |(cases aE;exact .inr (.inr (.inl ⟨_,_,_,_,rfl,rfl⟩)))
  |(cases aE;exact .inr (.inr (.inr ⟨by grind,by grind⟩)))
  |simp_all
def WJ(t j)(i)(b)(e)(o)(b1:cK i=f)(x:dN b)(ea:nT b)(C:dR o=f)(P:c (dP b.1)<=100000)(G:kL (e3 b.1) (c (e3 b.1))=f)(Z:g6 b.2.2=f)(aK:e=1∨e=2)(ah:1<=dF b):
  Y r 117 [b9 b,S i,S e,bD.S o] (ie t j) (MB (px i b e o)) (ie t j):=by
 obtain⟨Q,p⟩:∃Q,Q=px i b e o:=⟨_,rfl⟩;rw[<-p];unfold px at p;simp only at p;refine(bk.jc (ι:=Unit) (ao:=λ_=>ie t j) (res:=λ_=>MB Q) func117 rfl rfl rfl ?_).toY
 refine db.seq (bY.bA (g.aW ?_));refine aZ a v (db.seq (bY.bA (g.aW ?_)));refine aZ a v (g.aF (IS b x.a2 x.bs x.a7 x.bz x.aM) [] a (aZ a v (db.seq (bY.bA (g.aW ?_)))));refine g.bw 8 a a a E (by simp;exact⟨v,v⟩) (aZ a v (g.aF (V6 b x ea) [] a (aZ a v (db.seq (db.seq (bY.bA (g.aW ?_)))))));generalize ak:e3 b.1=d at *;have ab:a8 r [(162,eY [a1.S b.1] (a2.S d)),(160,eY [bQ.S (gu i o d),S 4] (ax (.fn (.func 194) [] [.O [qK (gu i o d)],.O [.int .i64 4]])))]:=.cons (fo (ak▸UY b.1 x.a2 P)) (.cons (fo (TE _)) .nil);have aF:c d<=4000000:=by grind[JN]
 refine g.gg b5 [S i,bD.S o,aG 2 0,a1.S b.1,a2.S d,bQ.S (gu i o d),ax (.fn (.func 194) [] [.O [qK (gu i o d)],.O [.int .i64 4]])] 12 rfl rfl rfl rfl rfl ⟨aT.y,aT.y,aT.y,aT.y,
  aT.eval (bg:=[]) bd ab a a,aT.dS (dx.dj (WZ t j i o d b1 C G aF).tocD [0,1] a a a a a a a bl a bl),aT.eval (bg:=[]) bd ab a a,v⟩ ?_
 refine aZ a v (db.block ?_);refine db.ba (acX b e o (gu i o d)) (vW t j i b .bo (b.1++jn i b (gu i o d) 0) (dz b+(0:Nat))) a E a ?_ ?_
 .simp[jn];exactλaA _=>rfl
 have ad:∀B∈gu i o d,cC B=f:=(vS (r1 C)).1;have ag:c (gu i o d)<=4000000:=fF (vS (r1 C)).2 b';generalize gu i o d=k at *;obtain⟨au,av,I,ar⟩:=D8 (nk i b k) ((c k+3) / 4) 0;have aJ:=x.a2;generalize V:mP (nk i b k) ((c k+3) / 4) 0=l at *;refine db.jO (o3:=e0 [.O [qK k],.O [.int .i64 4]]) (bV.callee a)
  (TD (yu:=?afc) k ag l y (λw=>vW t j i b .bo (b.1++jn i b k w) (dz b+(w:Nat))) (vW t j i b (.cg 159 (.O [.V [112,97,99,107,115]])) (b.1++jn i b k l) (dz b+(l:Nat))) (λw=>rfl) (λw=>rfl) a (λw J L=>?Yv) λaI=>?Yw) λaA=>?b1
 case Yw=>
  have O:=ar y;have R:=IH (r:=r) t j (dz b+(l:Nat)) i (gC k l) Nj b1 (λB F=>ad B (sj (hc F))) (by simp[gC];omega);have ae:=C8 i b k l;generalize an:l1 (dz b+(l:Nat)) i (gC k l)=s at *;refine iy.cI (br:=λ_=>[.cells 91 [.c (.int .i64 s.1.1),.c (.S m 2 (c s.1.2) (bG.fn s.1.2))],.x]) (iy.intro (w:=h .ret) a a a a (g.aW ?_)) ?_ ?_
  .refine aZ a v ⟨a,a,g.aW ?_⟩;refine aZ a v (g.aF R [0,1] a ?_);have aa:c (b.1++jn i b k l)=c b.1+l:=M;have D:s.2=f->c b.1+l=20:=λaw=>by simpa[nk,an,aw]using O
   cases z:s.2 with
   |false=>
    refine a6 [(44,f),(49,f),(1000007,f)] a (by simp[z]) (g.region ?_);refine gI [] 3 a v (g.eZ 52 13 a a a ?_);refine aZ a v (g.ret ?_);refine⟨a,a,(),jN a ?_⟩;simp[U.Y,U,ba,a9];and_intros<;>first|exact bt.same|exact bt.nil|rfl
   |true=>
    have:=D z;refine a6 [(44,m),(49,f),(1000007,f)] a bJ (g.region ?_);refine gI [] 3 a v (g.eZ 52 13 a a a ?_);refine aZ a v (g.ret ?_);refine⟨a,a,(),jN a ?_⟩;simp
  .exact λ_=>rfl
  exactλ_=>Mi
 case Yv=>
  have aE:=I w (gX _) J;have R:=IH (r:=r) t j (dz b+(w:Nat)) i (gC k w) Nj b1 (λB F=>ad B (sj (hc F))) (by simp[gC];omega);have ae:=C8 i b k w;have W:=aao i b k w;obtain⟨aq,aC⟩:(l1 (dz b+(w:Nat)) i (gC k w)).2=f/\¬(c b.1)+w=20:=by simpa[nk]using aE
  generalize l1 (dz b+(w:Nat)) i (gC k w)=s at *;have aa:c (b.1++jn i b k w)=c b.1+w:=M;have ai:b.1++jn i b k (w+1)=(b.1++jn i b k w)++[s.1]:=M;generalize b.1++jn i b k w=n at *;refine iy.cI (br:=λ_=>[.cells 91 [.c (.int .i64 s.1.1),.c (.S m 2 (c s.1.2) (bG.fn s.1.2))]]) (iy.intro (w:=q) a a a a (g.aW ?_)) ?_ ?_
  .refine aZ a v ⟨a,a,g.aW ?_⟩;refine aZ a v (g.aF R [0,1] a ?_);have md:=a1.a0 n s.1;have az:=KL ea;refine a6 [(44,m),(49,m)] a ?_ ?_
   .simp only[U,a7,aq,show np.bytes=32 from a,aa,eU,d8,gj,ba,a9];omega
   refine⟨a,a,(),jN a ?_⟩;have aM:c (n++[s.1])=c n+1:=E;have H:dz b+(w:Int)+1=dz b+((w+1:Nat):Int):=y;rw[ai,aM,<-H];simp only[U.Y,U,ba,a9];exact PQ
  .exact λ_=>rfl
  exactλ_=>Mi
 case b1=>
  by_cases L:4*l<c k
  .rw[bs L];refine⟨_,a,by simp,.ret,a,?_⟩;rw[bs (show l<(c k+3) / 4 by omega)]at p;subst p;simp only[uF,v5];refine .freeze 8 4 a a a (.freeze 9 5 a a a (.of ⟨(),kZ.cells bd [0,1] a ?_ a a a ql⟩));simp
  rw[bm L];refine⟨_,a,by simp,.normal,a,?_⟩;rw[bm (show¬l<(c k+3) / 4 by omega)]at p;show db r _ _ _ _ _;refine bY.bA (g.aW ?_);by_cases D:20<dF b
  .rw[bs D]at p;subst p;refine a6 [(63,f),(1000011,f)] a bw (g.region ?_);refine gI [] 3 a v (g.eZ 66 13 a a a ?_);exact OW
  rw[bm D]at p;have aj:c b.2.2<=9:=by simp only[g6,cF,bA]at Z;omega
  refine a6 [(63,m)] a bw (g.aF (W0 t j (dF b) i o ⟨ah,by omega⟩ b1 C) [0,1] a ?_);have md:=bj.a0 b.2.1 (gQ (dF b) i o);have aH:=x.a7;refine a6 [(1000014,f)] a ?_ ?_
  .simp only[U,show rD.bytes=32 from a,ba,a9];omega
  refine g.region ?_;refine aZ a v (g.aF (VI b.2.2 (e,dF b) Z (by simp only[ht,cF,bA];omega) aj) [] a ?_);by_cases A:c b.2.2=9
  .rw[bs A]at p;subst p;refine a6 [(91,f),(1000016,f)] a (by simp[A]) (g.region ?_);refine gI [] 3 a v (g.eZ 94 14 a a a ?_);exact OW
  rw[bm A]at p;subst p;simp only[bm A];refine a6 [(91,m),(1000018,f)] a (by simp[A]) ?_;have ae:c (b.1++jn i b k l)=c b.1+l:=by grind[C8]
  generalize b.1++jn i b k l=n at *;generalize X:b.2.1++[gQ (dF b) i o]=u at *;have N:c u=c b.2.1+1:=M;generalize T:b.2.2++[(e,dF b)]=K at *;refine g.fV (dE:=[(8,aG 4 0),(9,aG 5 0),(10,aG 9 0)]) (ao:=ie t j++[.cells 27 [.c (tv b.1),.c (tw b.2.1),.c (hQ b.2.2)],.cells 3 [.c (.int .i64 i)],.cells 27 [cB,cB,cB],.cells 156 [.c .bo],.h 91 2 (c n) (a1.fn n),.h 106 2 (c u) (bj.fn u),.x,.cells 27 [.R 6 (.S (c n) 2 0 (c n)),.R 7 (.S (c u) 2 0 (c u)),.c (hQ K)],.cells 3 [.c (.int .i64 (dz b+(l:Nat)))],.x,.bn,.cells 106 [.c (.int .i64 (gQ (dF b) i o).1),.c (.S m 2 (gQ (dF b) i o).2.length (cu.fn (gQ (dF b) i o).2))]]) ?_ a ?_ a ?_
  .refine g.bw 6 a a a E E (g.bw 7 a a a E E (aZ a v (g.ret (.freeze 8 4 a a a (.freeze 9 5 a a a (.of ⟨(),kZ.cells bd [0,1] a ?_ a a a ql⟩))))));simp[hv]
  .simp
  simp only[U.Y,U,N,ba,a9];exact PQ
end
structure j3(b:cz):Prop where
 eN:c b.1<=20
 dI:∀R∈b.1,(1<=R.1/\R.1<=99)/\c R.2<=4
 ej:c b.2.1<=21
 cZ:∀l∈b.2.1,(1<=l.1/\l.1<=20)/\c l.2<=6/\∀X∈l.2,c X.2<=40
 fX:c b.2.2<=9
 fo:∀u∈b.2.2,1<=u.2/\u.2<=20
def sX{a g:Type}{ae:a->p g}{k}:∀{d:p a},(∀b∈d,c (ae b)<=k)->c (d.flatMap ae)<=k*c d
 |[],_=>by simp
 |b::d,e=>by have l:=e b i';have n:=sX (d:=d) λj i=>e j (m6 _ i);grind[Nat.mul_succ]
def v6{a:eE}(d:c a.2<=6/\∀b∈a.2,c b.2<=40):c (d_ a.2)<=240:=by have:=sX (ae:=λb:mZ=>b.2) (k:=40) d.2;unfold d_;omega
def j3.fS{b:cz}(a:j3 b):nU b:=by
 have j:=a.eN;have l:=a.ej;have k:c (dg b.1)<=4*c b.1:=sX λg d=>by rw[k0];exact(a.dI g d).2
 have n:c (hf b.2.1)<=240*c b.2.1:=sX λi e=>v6 (a.cZ i e).2;refine⟨⟨by omega,λi e=>?_,by omega,by omega⟩,λg d=>?_,by omega⟩
 .have:=(a.cZ i e).2;grind
 have:=(a.dI g d).2;omega
def j3.et{b}(d:j3 b):dN b:=by have a:=d.fS;have e:=d.fX;exact⟨a.fN,a.c1,a.e_,a.dW,by omega⟩
def j3.fL{b}(e:j3 b):nT b:=
 ⟨λd a=>by have:=(e.dI d a).1;omega,λd a=>by have:=(e.cZ d a).1;omega,λd a=>by have:=e.fo d a;omega⟩
def j3.j8{b}(a:j3 b):c (dP b.1)<=100000:=by
 have e:=a.eN;have:c (R1.dP b.1)<=4*c b.1:=sX λg d=>by rw[k0];exact(a.dI g d).2
 omega
def acw{l}{ab}(g:(fc i l ab).isSome=f):c l.2<=6/\∀b∈l.2,c b.2<=40:=by
 unfold fc at g;split at g
 .rename_i j;simp only[cF]at j;obtain⟨⟨_,o⟩,k⟩:=j;refine⟨?_,λb n=>?_⟩
  .simp only[dR,cF,bA,fH,k0]at k;omega
  have a:=List.all_eq_true.1 o b n;unfold hh at a;split at a
  .cases a
  rename_i p d;split at a
  .cases a
  rename_i s e;have r:c p=c b.2:=by unfold h2 at d;split at d<;>cases d;simp
  unfold jH at e;split at e
  .rename_i j;simp[cF,hd,fC,bA]at j;grind[vB]
  grind
 grind
def nV.h0{b}(a:nV i b):j3 b:=by
 have l:c b.2.1<=20:=by have:=w9 1 a.dp λe d=>(a.a7 e d).1;omega
 have g:=a.e8;simp[g6,cF,bA,fY]at g;refine⟨a.len,λR j=>⟨(a.c1 R j).db,(a.c1 R j).len.2⟩,by omega,λe d=>⟨(a.a7 e d).1,acw (a.a7 e d).2⟩,g.2,λn k=>?_⟩;have:=(sz (R:=ht) (I:=(0,0))).1 g.1 n k;simp[ht,cF,bA]at this;omega
def Yq{d}(b:∀a∈d,-4000000<=a.2/\a.2<=4000000):1<=lS d:=(sZ d b).1
def acr{b}(a:j3 b):1<=dF b:=by have:=Yq a.fL.aM;unfold dF;split<;>omega
def aa5{b}(d:j3 b):1<=dz b:=by
 unfold dz;split
 .omega
 rename_i a;have:=(d.dI _ (CJ a (0,[]))).1;omega
def j3.dc{b}{o}{ct}(g:j3 b)(B:c b.2.1<=20)(n:dR o=f)(s:fJ i b o=m):j3 (hR i b ct o):=by
 simp[fJ,Bool.or_eq_false_iff,dt]at s;obtain⟨E,C,I,D⟩:=s;have z:=acr g;have F:=aa5 g;have v:=Es.1 n;unfold hR;refine⟨by grind,λa x=>?_,by grind,λa x=>?_,by grind,λa x=>?_⟩
 .rcases gk.1 x with x|x
  .exact g.dI a x
  obtain⟨j,A,p,e,r,t,u,rfl⟩:=KP i _ _ _ (vS (i:=i) (d:=e3 b.1) (r1 n)).1 a x;have e:j<dz b+c (pm i b o):=e;exact⟨⟨by show 1<=j;omega,by show j<=99;omega⟩,by grind[aay]⟩
 .rcases gk.1 x with x|x
  .exact g.cZ a x
  rw[gW]at x;subst x;refine⟨⟨z,by show dF b<=20;omega⟩,by show(o.map _).length<=6;grind,λJ w=>?_⟩;obtain⟨k,s,rfl⟩:=k2.1 w;have l:=(v.1 k s).2;simp[fC,cF,bA]at l;have y:=vB k.2;show((cx k.2).map _).length<=40;grind
 rcases gk.1 x with x|x
 .exact g.fo a x
 grind
structure iZ(b:cz):Prop extends j3 b where
 dU:b.1.Pairwise λR bc=>R.1<bc.1
 dp:b.2.1.Pairwise λl X=>l.1<X.1
 fC:∀u∈b.2.2,1<=u.1/\u.1<=2
def iZ.nil:iZ ([],[],[]):=⟨⟨by simp,by simp,by simp,by simp,by simp,by simp⟩,by simp,by simp,by simp⟩
def iZ.eB{b}(a:iZ b):q9 b:=⟨a.et,a.dU,a.fL.bm,a.fC⟩
def iZ.j4{b}(a:iZ b):c b.2.1<=20:=by have:=w9 1 a.dp λe d=>(a.cZ e d).1;omega
def Ge{ae:α->Int}{d}(j:d.Pairwise λa b=>ae a<ae b)(i:c d≠0)(e):∀g∈d,ae g<=ae (d.getD (c d-1) e):=by grind[List.getElem_of_mem,List.pairwise_iff_getElem]
def iZ.dc{i}{b}{o}{ct}(d:iZ b)(p:dR o=f)(s:1<=ct/\ct<=2)(n:fJ i b o=m):iZ (hR i b ct o):=by
 refine⟨d.toj3.dc d.j4 p n,?_,?_,λe a=>?_⟩
 .refine o0.2 ⟨d.dU,KN i _ _ _,λe a l g=>?_⟩;have r:e.1<dz b:=by
   unfold dz;split
   .grind
   rename_i j;have:=Ge (ae:=λk:ca=>k.1) d.dU j (0,[]) e a;omega
  have:=Du i _ _ _ l g;omega
 .refine o0.2 ⟨d.dp,by simp,λe a l g=>?_⟩;rw[gW]at g;subst g;show e.1<dF b;unfold dF;split
  .grind
  rename_i j;have:=Ge (ae:=λk:eE=>k.1) d.dp j (0,[]) e a;omega
 rcases gk.1 a with a|a
 .exact d.fC e a
 grind
def iZ.j6{b}(a:iZ b)(e:eE->Bool):iZ (b.1,b.2.1.filter e,b.2.2):=
 ⟨⟨a.eN,a.dI,fF (kz _ _) a.ej,λg d=>a.cZ g (kB.1 d).1,a.fX,a.fo⟩,a.dU,a.dp.filter _,a.fC⟩
def iZ.step{b}(a:iZ b)(bR)(cp):iZ (fd bR cp b.1,b.2):=by
 refine⟨⟨?_,λi d=>?_,a.ej,a.cZ,a.fX,a.fo⟩,?_,a.dp,a.fC⟩
 .have:c (fd bR cp b.1)<=c b.1:=by unfold fd;grind
  exact fF this a.eN
 .obtain⟨e,s,rfl,_⟩:=Mc d;have:=a.dI e s;grind[C3,yr]
 show (fd bR cp b.1).Pairwise _;unfold fd;refine List.Pairwise.filter _ (wQ.2 (a.dU.imp λg=>?_));grind[yr]
structure fi(k:Nat)(Q:dT):Prop where
 bm:iZ Q.1
 cb:c Q.2.1<=k
 cL:c Q.2.2<=20
def fi.mono{d}(a:fi k d)(b:k<=A):fi A d:=⟨a.bm,fF a.cb b,a.cL⟩
abbrev kS:dT:=(([],[],[]),[],[])
def fi.nil{k}:fi k kS:=⟨iZ.nil,by simp,by simp⟩
def kD(e:Int)(a:cz)(d:p Int):dT×Bool:=
 if hS e a=f then(((a.1,a.2.1.filter λb=>d.contains b.1,a.2.2),h5 (a.2.1.filter λb=>d.contains b.1),a.1.map (·.1)),f)else(kS,m)
def aeg{b}(a:j3 b):c (hf b.2.1)<=240*21:=by have g:=a.ej;have i:c (hf b.2.1)<=240*c b.2.1:=sX λe d=>v6 (a.cZ e d).2;omega
def fi.ik{b}{CX}(e:iZ b):fi 6000 (kD i b CX).1:=by
 unfold kD;split
 .have d:=e.j6 λa=>CX.contains a.1;refine⟨d,?_,by simp only[k0];exact e.eN⟩;have g:=yv (b.2.1.filter λa=>CX.contains a.1) _ (bC _);have j:=aeg d.toj3;grind
 exact fi.nil
def fi.step{k}{b}(a:fi k b):fi k (jq b):=by
 unfold jq;split
 .exact a
 rename_i e g d;refine⟨a.bm.step _ _,a.cb,?_⟩;have:=a.cL;grind
def rS(d:Int)(b:dT)(a:Int)(e:p c'):dT:=(hR d b.1 a e,(gF (gQ (dF b.1) d e).2).foldl e4 b.2.1,b.2.2)
def rL(b:Int)(e:dT)(a:Int)(d:p c'):Bool:=g_ b e&&decide (1<=a/\a<=2)&&dR d
def fi.dc{i}{k}{a}{o}{ct}(b:fi k a)(j:dR o=f)(d:1<=ct/\ct<=2)(g:fJ i a.1 o=m):fi (k+240) (rS i a ct o):=by have e:=b.bm.dc j d g;refine⟨e,?_,b.cL⟩;have l:=qm a.2.1 (gF (gQ (dF a.1) i o).2);have n:=tg (gQ (dF a.1) i o).2;have r:=v6 (e.cZ (gQ (dF a.1) i o) (by simp[hR])).2;have p:=b.cb;show((gF _).foldl e4 a.2.1).length<=_;omega
def fi.j1{a}(b:fi k a):pS a.1:=b.bm.fS.topS
def gw(b:p (Int×Int)):Int:=b.foldl (λd a=>64*d+21*a.1+a.2) 0
def ny(a:Int×Int)(b:p (Int×Int)):(Int×Int)×Int:=
 if g6 b=f/\a.1<=c b/\0<=a.1 then
  if gw (b.take a.1.toNat)=a.2 then(((c b:Int),gw b),0)else(a,2)
 else(a,1)
def D'{b:p (Int×Int)}(e:∀d∈b,(1<=d.1/\d.1<=2)/\1<=d.2/\d.2<=20):∀a,0<=gw (b.take a)/\gw (b.take a)<((64 ^ a:Nat):Int)
 |0=>by simp[gw]
 |a+1=>by
  have i:=D' e a;by_cases g:a<c b
  .have j:gw (b.take (a+1))=64*gw (b.take a)+21*(b.getD a (0,0)).1+(b.getD a (0,0)).2:=by unfold gw;grind[ia]
   grind
  grind[List.take_of_length_le]
def J4{d}(b:g6 d=f):(∀a∈d,(1<=a.1/\a.1<=2)/\1<=a.2/\a.2<=20)/\c d<=9:=by simp only[g6,cF,bA,fY]at b;refine⟨λa e=>?_,b.2⟩;have:=(sz (R:=ht) (I:=(0,0))).1 b.1 a e;simpa only[ht,cF,bA]using this
def zd{d}(g:∀a∈d,(1<=a.1/\a.1<=2)/\1<=a.2/\a.2<=20)(i:c d<=9)(e):0<=gw (d.take e)/\gw (d.take e)<18014398509481984:=by
 rcases Nat.le_total e 9 with b|b
 .have j:=D' g e;have:64 ^ e<=64 ^ 9:=Ax y b;grind
 rw[FR y];have j:=D' g (c d);rw[c9]at j;have:64 ^ c d<=64 ^ 9:=Ax y i;grind
abbrev So:p (Nat×bK):=[(142,He)]
def W3(i)(b)(z:nU b):Y (ai.aT V) 105 [b9 b,S i] [] (bi ((aD (c b.2.1)).all (lo i b))) []:=by
 refine Y.K func105 rfl λN=>?_;have K:=z.e_;have F:=z.dW;have j:a8 (ai.aT V) So:=.cons ad7 .nil;refine b_ j a v (g.aN 1 (λe=>e<=c b.2.1/\∀w,w<e->lo i b w=f) (λe:Nat=>[(1,S i),(2,aG 0 0),(10,bj.S b.2.1),(11,S (c b.2.1)),(12,S e)]) (λ_=>[y6 b]) (λe=>c b.2.1-e) 0 a E a E a ⟨by omega,by omega⟩ ?_);rintro e ⟨B,o⟩;by_cases u:e<c b.2.1
 .have k:b.2.1.getD e bj.I=b.2.1.getD e (0,[]):=rfl;have t:b.2.1.getD (e-1) bj.I=b.2.1.getD (e-1) (0,[]):=rfl;have l:lo i b e=(decide (1<=(b.2.1.getD e (0,[])).1/\(b.2.1.getD e (0,[])).1<=20)&&j_ (·.1) (0,[]) b.2.1 e&&(fc i (b.2.1.getD e (0,[])) b.1).isSome):=rfl;have D:=p6 (ae:=λn:eE=>n.1) (I:=(0,[])) (d:=b.2.1) (e:=e);have C:=F _ (og (I:=(0,[])) u);generalize b.2.1.getD e (0,[])=n at *;generalize b.2.1.getD (e-1) (0,[])=s at *;by_cases p:1<=n.1
  rotate_left
  .refine a_ j [(13,f),(20,f),(25,f),(40,f)] a ?_ (g.aX (bT.zero a ?_))
   .simp[-al,k];omega
   exact j0
  by_cases r:n.1<=20
  rotate_left
  .refine a_ j [(13,f),(20,m),(25,f),(40,f)] a ?_ (g.aX (bT.zero a ?_))
   .simp[-al,k];omega
   exact j0
  rw[fk ⟨p,r⟩,fm]at l;by_cases x:e=0
  .subst x;rw[show j_ (·.1) (0,[]) b.2.1 0=f from a,fm]at l;cases A:(fc i n b.1).isSome with
   |false=>
    refine a_ j [(13,f),(20,m),(25,m),(27,m),(40,m),(50,f)] a N2 (g.aX (bT.zero a ?_));rw[kC u (l.trans A)];simp
   |true=>
    refine a_ j [(13,f),(20,m),(25,m),(27,m),(40,m),(50,m)] a ?_ (g.aB 1 a E E ⟨u,iD o (l.trans A)⟩ y);exact N2
  rw[D x]at l;by_cases J:s.1<n.1
  rotate_left
  .refine a_ j [(13,f),(20,m),(25,m),(28,f),(38,f),(40,f)] a ?_ (g.aX (bT.zero a ?_))
   .simp[-al,k,t,a7];omega
   exact j0
  rw[fk J,fm]at l;cases A:(fc i n b.1).isSome with
  |false=>
   refine a_ j [(13,f),(20,m),(25,m),(28,f),(38,m),(40,m),(50,f)] a Ql (g.aX (bT.zero a ?_));rw[kC u (l.trans A)];simp
  |true=>
   refine a_ j [(13,f),(20,m),(25,m),(28,f),(38,m),(40,m),(50,m)] a ?_ (g.aB (e+1) a E E ⟨u,iD o (l.trans A)⟩ y);exact Ql
 obtain rfl:e=c b.2.1:=y;rw[fY.2 o];refine a_ j [(13,m)] a E (g.aD ?_);exact b_ j a v (g.aw a)
def acT(i)(b):hS i b=(cK i&&tk i b&&(aD (c b.2.1)).all (lo i b)&&g6 b.2.2):=by unfold hS tk;cases(aD (c b.1)).all (nC i b.1)<;>cases decide (dg b.1).Nodup<;>cases(aD (c b.2.1)).all (lo i b)<;>cases cK i<;>cases g6 b.2.2<;>cases decide (c b.1<=20)<;>rfl
abbrev Si:bK:=ek o1 c8 (λb a=>bi (tk a b)) λb a=>[cK a=f,nU b]
abbrev Sm:bK:=ek o1 c8 (λa b=>bi ((aD (c a.2.1)).all (lo b a))) λa _=>[nU a]
def W'(i)(b)(ae:nU b):Y (ai.aT V) 64 [S i,b9 b] [] (bi (hS i b)) []:=by
 refine Y.K func64 rfl λk=>?_;have d:a8 (ai.aT V) [(102,Hd),(103,df c8 (λi=>bi (cK i)) λ_=>[]),(104,Si),(105,Sm),(106,n3)]:=.cons ad5 (.cons rW (.cons (.bl λb i e=>Wi i b e.1 e.2) (.cons (.bl λb i e=>W3 i b e) (.cons tG .nil))));have j:=a1.E b.1;have s:=bj.E b.2.1;have x:=a2.E b.2.2;rw[acT];cases b1:cK i
 .exact a_ d [(10,m),(15,m),(20,m)] a (by simp[b1,j,s,x,a1.U,bj.U,a2.U]) (g.aw a)
 cases aj:tk i b
 .exact a_ d [(10,f),(15,m),(20,m)] a (by simp[b1,j,s,x,a1.U,bj.U,a2.U,ae,aj]) (g.aw a)
 cases C:(aD (c b.2.1)).all (lo i b)
 .exact a_ d [(10,f),(15,f),(20,m)] a Qc (g.aw a)
 exact a_ d [(10,f),(15,f),(20,f)] a Qc (g.aw a oM)
abbrev xu:bK:=ek c8 o1 (λb a=>bi (hS b a)) λ_ a=>[nU a]
def Ek:bL (ai.aT V) 64 xu:=.bl λb d a=>W' b d a
abbrev kW(b a:av×Z):p an:=ie b a++[Ab]
def qv(d:Int)(b:cz)(a:Int)(e:p c'):cz×Bool:=
 if hS d b=f/\(a=1∨a=2)/\dR e=f then(match(px d b a e).2 with|none=>((px d b a e).1,f)|some _=>(b,m))else(([],[],[]),m)
structure FN(i:Int)(b:cz):Prop where
 kl:cK i=f
 sp:c (dP b.1)<=100000
 kn:kL (e3 b.1) (c (e3 b.1))=f
 e8:g6 b.2.2=f
 a7:1<=dF b
def rz:∀a,a<3->([0,1,2]:p Nat)[a]?=h a:=b'
def Tm{b:ai V}(aa):Y b 118 [ax .bo,n8 aa] [] (bi m) []:=by refine Y.K func118 rfl λd=>?_;refine aZ a v ?_;refine g.aP (Df a underlying156 a a a) a a ?_;exact a6 [(9,f)] a E (g.aw a)
def Xb(w u)(i)(b)(j)(o)(p:dN b)(a':nU b)(F:nT b)(G:a7 .i64 j)(Q:hS i b=f->FN i b):
  Y (ai.aT V) 78 [S i,b9 b,S j,bD.S o] (kW w u) (Mz (qv i b j o).1 (qv i b j o).2) (kW w u):=by
 refine Y.bp bd func78 rfl rfl rfl λH=>?_;have l:a8 (ai.aT V) [(64,xu),(39,rl)]:=.cons Ek (.cons vZ .nil);by_cases e:hS i b=f
 .by_cases d:j=1∨j=2
  .by_cases k:dR o=f
   .have n:qv i b j o=(match(px i b j o).2 with|none=>((px i b j o).1,f)|some _=>(b,m)):=bs ⟨e,d,k⟩;rw[n];obtain⟨N,C,z,D,O⟩:=Q e;have B:=WJ (r:=ai.aT V) w u i b j o N p F k C z D d O;apply g.cj [(0,S i),(2,S j),(3,bD.S o),(5,aG 3 0),(8,aG 4 0)] (kW w u++[.cells 27 [.c (tv b.1),.c (tw b.2.1),.c (hQ b.2.2)],.cells 27 [cB,cB,cB]])
    .intro du;rcases d with rfl|rfl
     .refine bf l [(17,m),(20,m),(25,m),(29,m),(1000003,f)] a OZ (du _ _ a ?_);simp
     refine bf l [(17,m),(20,f),(25,m),(29,m),(1000003,f)] a OZ (du _ _ a ?_);simp
    have K:∀y:Z,Y (ai.aT V) 118 [ax .bo,n8 y] [] (bi m) []:=λy=>Tm y;generalize px i b j o=J at *;obtain⟨W,R⟩:=J;cases R with
    |none=>
     have x:=B;refine cG l a v (g.aF x [0,1] a (bf l [(1000005,f)] a v (g.hM 12 6 a a λA=>?_)));refine cG l a v (g.g5 40 a ?_);exact g.aF (K _) [] a (bf l [(41,m)] a E nI)
    |some T=>
     have x:=B;refine cG l a v (g.aF x [0,1] a (bf l [(1000005,f)] a v (g.hM 12 6 a a λA=>?_)));refine g.iL 11 a λI=>?_;refine cG l a v (g.g5 40 a ?_);refine g.aF (Tk I A) [2,6] a (bf l [(41,f)] a E (g.aF (o8 b p.a2 p.bs p.a7 p.bz p.aM) [] a (qI l [] 2 a v (g.hN ?_))));exact g.bw 7 a a a E E (g.bw 8 a a a E E O_)
   have n:qv i b j o=(([],[],[]),m):=bm λs=>k s.2.2;rw[n];have t:dR o=m:=M;rcases d with rfl|rfl
   .exact bf l [(17,m),(20,m),(25,m),(29,f)] a Qi nI
   exact bf l [(17,m),(20,f),(25,m),(29,f)] a Qi nI
  have n:qv i b j o=(([],[],[]),m):=bm λs=>d s.2.1;rw[n];exact bf l [(17,m),(20,f),(25,f),(29,f)] a bJ nI
 have n:qv i b j o=(([],[],[]),m):=bm λs=>e s.1;rw[n];refine bf l [(17,f),(25,f),(29,f)] a ?_ ?_
 .simp only[U,a1.E,bj.E,a2.E];and_intros<;>first|rfl|exact True.intro|exact a1.U _|exact bj.U _|exact a2.U _|exact a'|grind
 exact nI
section
variable {r:ai V}
def TS(b)(d:dN b):Y r 62 [b9 b] [] (b9 b) []:=by refine(qi b d.a2 d.bs d.a7 d.bz d.aM).b1 a ?_ a;simp
abbrev Bn:bK:=df o1 (λa=>b9 a) λa=>[dN a]
def Mp:bL r 62 Bn:=.bb λb a=>TS b a
def Im(b)(e:dN b.1)(j:c b.2.1<=4000000)(l:c b.2.2<=4000000):Y r 36 [gm b] [] (.q (.agg [cJ a1 b.1.1,cJ bj b.1.2.1,cJ a2 b.1.2.2,cJ aB b.2.1,.r 0 1 (c b.2.2) (aB.fn b.2.2)])) [.r 3 1 (c b.2.2) (aB.fn b.2.2)]:=by
 refine Y.bp bd func36 rfl rfl rfl λk=>?_;have i:a8 r [(62,Bn)]:=.cons Mp .nil;refine bf i [(2000009,f)] a ?_ ?_
 .simp only[U,a1.E,a1.U,bj.E,bj.U,a2.E,a2.U,e,ba,a9,show ec.bytes=8 from a,lA];exact fp
 refine g.ba [gd b,.cells 30 [cJ a1 b.1.1,cJ bj b.1.2.1,cJ a2 b.1.2.2,cJ aB b.2.1,.r 2 1 (c b.2.2) (aB.fn b.2.2)],.r 3 1 (c b.2.2) (aB.fn b.2.2)] a ?_ ?_
 .simp[a1.E,bj.E,a2.E,o2]
 refine g.bd () [2] ?_ (λn d=>absurd d E);simp
def TU(b)(d:dN b.1)(e:c b.2.1<=4000000)(g:c b.2.2<=4000000):Y r 36 [gm b] [] (gm b) []:=
 (Im b d e g).b1 a E a
abbrev xl:bK:=df (Am Ct) (λa=>gm a) λa=>[dN a.1,c a.2.1<=4000000,c a.2.2<=4000000]
def Ee:bL r 36 xl:=.bb λb a=>TU b a.1 a.2.1 a.2.2
abbrev J0(b:ca)(a:p cW):p an:=[xn b,.cells 91 [.c (.int .i64 0),cB],.cells 91 [.c (.int .i64 b.1),.r 3 2 (c a) (bG.fn a)],.r 131 2 (c a) (bG.fn a)]
def Cz{d}{a:α->Bool}(g:e<c d)(b):(d.take (e+1)).filter a=if a (d.getD e b)=f then(d.take e).filter a++[d.getD e b]else(d.take e).filter a:=by rw[ia g b,List.filter_append,sr];split<;>simp
def Cy(d)(a:α->Bool)(b:e<=c d):c ((d.take e).filter a)<=e:=fF (kz _ _) bX
def Vq(R)(b)(C:c R.2<=4000000):Y r 63 [fz R,aB.S b] [] (fz (hy R b)) []:=by
 refine Y.bp bd func63 rfl rfl rfl λo=>?_;have j:a8 r [(49,uK)]:=.cons zg .nil;refine bf j [(1000002,f)] a v (g.cn 2 1 131 2 (bG.fn []) a a ?_);refine b_ j a v ?_;refine g.aN 4 (λe=>e<=c R.2) (λe:Nat=>[(1,aB.S b),(2,aG 0 0),(4,aG 1 0),(5,aG 2 0),(6,S e)])
  (λe=>J0 R ((R.2.take e).filter λd=>b.contains d.1)) (λe=>c R.2-e) 0 a E a E a y ?_
 intro e k;have n:=Cy R.2 (λd=>b.contains d.1) k;by_cases u:e<c R.2
 .have I:R.2.getD e bG.I=d9 R e:=rfl;have s:(R.2.take (e+1)).filter (λd=>b.contains d.1)=if b.contains (d9 R e).1=f then(R.2.take e).filter (λd=>b.contains d.1)++[d9 R e]else(R.2.take e).filter (λd=>b.contains d.1):=Cz u (0,[]);generalize(R.2.take e).filter (λd=>b.contains d.1)=l at *;generalize d9 R e=d at *;cases ae:b.contains d.1 with
  |true=>
   rw[bs ae]at s;have C:=bG.a0 l d;refine bf j [(15,f),(25,f)] a Pg (g.aB (e+1) a E ?_ u y);exact NX
  |false=>
   rw[bm dA]at s;refine bf j [(15,f),(25,m)] a Pn (g.aB (e+1) a E ?_ u y);simp_all
 exact O5
abbrev GY:bK:=ek (jx bG) (eX aB) (λb a=>fz (hy b a)) λb _=>[c b.2<=4000000]
def adL:bL r 63 GY:=.bl λd a b=>Vq d a b
abbrev jW(b:dT)(a:Bool):z:=.Q [.agg (vX b),.aq (.c (.bool a))]
abbrev l7:p O:=[cB,cB,cB,cB,cB]
def stepT(b:Int)(a:p Int)(d:p ca)(e:Nat):p ca:=fd b a (d.take e)
def acQ{bR}{cp}{ab}(a:e<c ab):stepT bR cp ab (e+1)=if(iP bR cp (ab.getD e (0,[]))).2.length=0 then stepT bR cp ab e else stepT bR cp ab e++[iP bR cp (ab.getD e (0,[]))]:=by unfold stepT fd;rw[ia a (0,[]),List.map_append,List.filter_append,List.map_singleton];grind
def acP(bR)(cp)(ab)(a:e<=c ab):c (stepT bR cp ab e)<=e:=by unfold stepT fd;grind
def W8(b)(k:dN b.1)(e:c b.2.1<=4000000)(j:b.2.2=[]):Y r 35 [gm b] [] (jW b m) []:=by refine Y.bE func35 rfl rfl rfl λi=>?_;have d:a8 r [(36,xl)]:=.cons Ee .nil;refine bf d [(13,f)] a bJ ?_;refine g.freeze 2 1 a a a ?_;refine g.cp bd [] a ?_ a a a fI;simp[a1.E,bj.E,a2.E,aB.E]
abbrev acU(b:cz)(a:p Int)(e:p Int)(d:p ca):p an:=[gd (b,a,e),.cells 30 l7,gd (b,a,e),.r 91 2 (c d) (a1.fn d)]
def _root_.Go.AM.cY.iV(a:cY α)(l)(d)(g:k=c d):bt k (fw 1 (a.fn (l::d))) (a.fn d):=by intro e b;simp only[fw,cY.fn,gr,al,Nat.add_comm 1 e,nY]
def W9(b)(cp l)(bR)(w)(F:l=bR::w)(x:dN b)(K:c cp<=4000000)(J:c l<=4000000):Y r 35 [gm (b,cp,l)] [] (jW ((fd bR cp b.1,b.2),cp,w) f) []:=by
 refine Y.bE func35 rfl rfl rfl λO=>?_;have n:a8 r [(36,xl),(63,GY)]:=.cons Ee (.cons adL .nil);have M:0<c l:=dA;refine bf n [(13,m),(1000005,f)] a ?_ ?_
 .simp only[U,a1.E,a1.U,bj.E,bj.U,a2.E,a2.U,aB.E,aB.U,x,K,J,ba,a9,eU,d8];omega
 refine g.bP 5 91 2 a a ?_;refine cG n a v ?_;have N:=x.a2;refine g.aN 4 (λe=>e<=c b.1) (λe:Nat=>[(1,aG 0 0),(2,aG 1 0),(4,aG 2 0),(5,.q (.aq (.r 3 2 (c (stepT bR cp b.1 e)) (a1.fn (stepT bR cp b.1 e))))),(6,S e)])
  (λe=>acU b cp l (stepT bR cp b.1 e)) (λe=>c b.1-e) 0 a ?_ a ?_ a y ?_
 .simp[stepT,fd]
 .simp[stepT,fd,a1.E,bj.E,a2.E,aB.E]
 intro e u;by_cases o:e<c b.1
 .have I:b.1.getD e a1.I=b.1.getD e (0,[]):=rfl;have A:=x.bs _ (mw o (0,[]));have j:=acQ (bR:=bR) (cp:=cp) o;have Q:=acP bR cp b.1 u;have t:l.getD (Int.toNat 0) aB.I=bR:=bJ;generalize stepT bR cp b.1 e=z at *;generalize b.1.getD e (0,[])=i at *;by_cases k:i.1=bR
  .have C:iP bR cp i=hy i cp:=by unfold iP;exact bw
   rw[C]at j;have d:=a1.a0 z (hy i cp);have R:(hy i cp).2.length<=c i.2:=kz _ _;have s:(i.1,i.2)=i:=rfl;by_cases p:(hy i cp).2.length=0
   .rw[bs p]at j;refine bf n [(21,f),(36,f),(44,m)] a ?_ (g.aB (e+1) a ?_ ?_ o y)
    .simp only[U,c1,I,t,s,A,bG.E,bG.U,aB.E,aB.U,a7,bA,dt,hd,ba,a9];exact zE
    .rw[j];simp
    rw[j];simp
   rw[bm p]at j;refine bf n [(21,f),(36,f),(44,f)] a ?_ (g.aB (e+1) a ?_ ?_ o y)
   .simp only[U,c1,I,t,s,A,bG.E,bG.U,aB.E,aB.U,a7,show np.bytes=32 from a,bA,dt,hd,ba,a9];exact zE
   .exact P4
   exact P4
  have C:iP bR cp i=i:=by unfold iP;exact bw
  rw[C]at j;have d:=a1.a0 z i;by_cases p:c i.2=0
  .rw[bs p]at j;refine bf n [(21,f),(36,m),(44,m)] a ?_ (g.aB (e+1) a ?_ ?_ o y)
   .simp only[U,c1,I,t,a7,bA,dt,eU,d8,ba,a9];exact zE
   .rw[j];simp
   rw[j];simp
  rw[bm p]at j;refine bf n [(21,f),(36,m),(44,f)] a ?_ (g.aB (e+1) a ?_ ?_ o y)
  .simp only[U,c1,I,t,a7,show np.bytes=32 from a,bA,dt,eU,d8,ba,a9];exact zE
  .exact P5
  exact P5
 obtain rfl:e=c b.1:=y;have D:stepT bR cp b.1 (c b.1)=fd bR cp b.1:=by unfold stepT;simp
 rw[D];refine bf n [(21,m)] a E (g.aD ?_);refine cG n a bw (g.freeze 2 1 a a a ?_);refine g.cp bd [] a ?_ a a a fI;have B:=aB.iV bR w a;rw[<-F]at B;simp only[U.Y,U,bS,ba,a9];and_intros<;>first|exact bt.same|exact B|simp_all|grind|rfl
def qq(a:dT):Bool:=!a.2.2.isEmpty
def W7(a)(g:dN a.1)(i:c a.2.1<=4000000)(l:c a.2.2<=4000000):Y r 35 [gm a] [] (jW (jq a) (qq a)) []:=by
 obtain⟨e,b,k⟩:=a;cases k with
 |nil=>exact W8 (e,b,[]) g i rfl
 |cons d j=>exact W9 e b (d::j) d j rfl g i l
abbrev Gh(d:cz)(a:p eE)(b:p Int):p an:=[jT d,.cells 30 l7,.cells 30 [cJ a1 d.1,.r 4 2 (c a) (bj.fn a),cJ a2 d.2.2,cB,.r 5 1 (c b) (aB.fn b)],jT d,.r 106 2 (c a) (bj.fn a),.r 3 1 (c b) (aB.fn b)]
def map_take{b:Type}{d}{ae:α->b}(g:e<c d)(a):(d.take (e+1)).map ae=(d.take e).map ae++[ae (d.getD e a)]:=by rw[ia g a,List.map_append];rfl
def F2(d)(a:eE->Bool):c (hf (d.filter a))<=c (hf d):=by
 induction d with
 |nil=>simp
 |cons e d b=>
  unfold hf at *;grind
def Tv(i)(b)(j)(o:dN b)(z:pS b):Y r 34 [S i,b9 b,aB.S j] [] (jW (kD i b j).1 (kD i b j).2) []:=by
 refine Y.bE func34 rfl rfl rfl λN=>?_;have l:a8 r [(50,Bw),(62,Bn),(49,uK),(48,Bp)]:=.cons MA (.cons Mp (.cons zg (.cons Ms .nil)));have M:=o.a2;have F:=o.a7;unfold kD;cases t:hS i b with
 |false=>
  refine bf l [(15,f)] a ?_ ?_
  .simp only[U,a1.E,a1.U,bj.E,bj.U,a2.E,a2.U,t,o.a2,o.a7,ba,a9,il];exact z.dW
  refine g.freeze 6 1 a a a ?_;exact P6
 |true=>
 rw[bs a];refine bf l [(15,m),(1000006,f)] a ?_ ?_
 .simp only[U,a1.E,a1.U,bj.E,bj.U,a2.E,a2.U,t,o.a2,o.a7,o,ba,a9,gj];exact z.dW
 refine g.cn 2 1 106 2 (bj.fn []) a a ?_;refine g.cn 2 4 3 1 (aB.fn []) a a ?_;refine cG l a v ?_;refine g.aN 6 (λe=>e<=c b.2.1) (λe:Nat=>[(2,aB.S j),(4,aG 0 0),(6,aG 1 0),(8,aG 2 0),(9,aG 3 0),(10,S e)])
  (λe=>Gh b ((b.2.1.take e).filter λk=>j.contains k.1) []) (λe=>c b.2.1-e) 0 a ?_ a ?_ a y ?_
 .simp
 .simp[a1.E,bj.E,a2.E]
 intro e p;have C:=Cy b.2.1 (λk=>j.contains k.1) p;by_cases n:e<c b.2.1
 .have w:b.2.1.getD e bj.I=b.2.1.getD e (0,[]):=rfl;have s:(b.2.1.take (e+1)).filter (λk=>j.contains k.1)=if j.contains (b.2.1.getD e (0,[])).1=f then(b.2.1.take e).filter (λk=>j.contains k.1)++[b.2.1.getD e (0,[])]else(b.2.1.take e).filter (λk=>j.contains k.1):=Cz n (0,[]);generalize(b.2.1.take e).filter (λk=>j.contains k.1)=x at *;generalize b.2.1.getD e (0,[])=k at *;cases A:j.contains k.1 with
  |true=>
   rw[bs A]at s;have d:=bj.a0 x k;refine bf l [(30,f),(40,f)] a ?_ (g.aB (e+1) a E ?_ n y)
   .simp[-al,-List.contains_eq_mem,w,n,A,aB.E,aB.U,a7,show rD.bytes=32 from a];omega
   exact P'
  |false=>
   rw[bm dA]at s;refine bf l [(30,f),(40,m)] a ?_ (g.aB (e+1) a E ?_ n y)
   .simp[-al,-List.contains_eq_mem,w,n,A,aB.E,aB.U,a7];omega
   simp_all
 obtain rfl:e=c b.2.1:=y;rw[c9]at C⊢;have D:=F2 b.2.1 λk=>j.contains k.1;have I:ln (b.1,b.2.1.filter (λk=>j.contains k.1),b.2.2):=λk d=>o.bz k (kB.1 d).1;have J:=z.ev;generalize b.2.1.filter (λk=>j.contains k.1)=B at *;refine bf l [(30,m)] a E (g.aD ?_);refine cG l a v ?_;refine g.aN 6 (λe=>e<=c b.1) (λe:Nat=>[(2,aB.S j),(4,aG 0 0),(6,aG 1 0),(8,aG 2 0),(11,S e)])
  (λe=>Gh b B ((b.1.take e).map (·.1))) (λe=>c b.1-e) 0 a E a E a y ?_
 intro e p;have K:c ((b.1.take e).map (·.1))=e:=bX;by_cases n:e<c b.1
 .have w:b.1.getD e a1.I=b.1.getD e (0,[]):=rfl;have s:=map_take (ae:=λu:ca=>u.1) n (0,[]);generalize(b.1.take e).map (λu:ca=>u.1)=x at *;generalize b.1.getD e (0,[])=u at *;have d:=aB.a0 x u.1;refine bf l [(57,f)] a ?_ (g.aB (e+1) a E ?_ n y)
  .simp[-al,w,n,a7,show ec.bytes=8 from a];omega
  exact P'
 obtain rfl:e=c b.1:=y;rw[c9];refine bf l [(57,m)] a E (g.aD ?_);refine cG l a bJ (g.freeze 8 2 a a a ?_);refine g.freeze 6 1 a a a ?_;refine g.cp bd [] a ?_ a a a fI;simp[bj.E]
abbrev GF:bK:=kb c8 o1 (eX aB) (λd a b=>jW (kD d a b).1 (kD d a b).2) λ_ a _=>[dN a,pS a]
def adm:bL r 34 GF:=.c0 λd e b a=>Tv d e b a.1 a.2
def rC(a:dV)(b:ca):ca:=if b.1=a.2.1/\0<=a.2.2.1/\a.2.2.1<c b.2 then(b.1,gH b.2 a.2.2.1.toNat a.2.2.2)else b
def pj(a:cz)(b:dV):cz:=
 if b.1=1 then(a.1.filter λd=>!(d.1==b.2.1),a.2.1,a.2.2)
 else if b.1=2 then(if b.2.1<0∨b.2.1>c a.2.2 then a else(a.1,a.2.1.filter λd=>!jm b.2.1.toNat a.2.2 d,a.2.2.take b.2.1.toNat))
 else if b.1=3 then(a.1.map (rC b),a.2)
 else if b.1=4 then(if 0<=b.2.1/\b.2.1<c a.2.2 then(a.1,a.2.1,a.2.2.set b.2.1.toNat (3-(a.2.2.getD b.2.1.toNat (0,0)).1,(a.2.2.getD b.2.1.toNat (0,0)).2))else a)
 else a
def Jx{b}{d}(e:pO b d):b.1.map (rC d)=b.1:=by apply rf E;intro g i a;rw[List.getElem_map];have:=e g a;rw[al,bI a,im]at this;exact bm this
def Jw{b}{d}{i0}(a:sb b d i0 A):b.1.map (rC d)=(gY b d i0 A).1:=by
 have n:=a.a';apply p4;intro e;have k:(gY b d i0 A).1=b.1.set i0 ((b.1.getD i0 (0,[])).1,gH (b.1.getD i0 (0,[])).2 A d.2.2.2):=rfl;rw[k,m7];by_cases i:e<c b.1
 .have s:b.1[e]?=h (b.1.getD e (0,[])):=M;by_cases g:e=i0
  .subst g;rw[ij i,s];have o:=a.gr;have j:=a.b4;simp only[lC,rC];rw[bs ⟨a.db,by omega,by omega⟩,j,c1]
  rw[kA (λa=>g a.symm),s];simp only[lC,rC];rw[bm (λl=>a.b2 e i g l.1)]
 grind
structure Ru(r:ai V)(b:cz)(d:dV)(az:cz):Prop where
 fj:dN az
 dw:Y r 61 [b9 b,eB d] [] (b9 az) []
def y'{b}(l:q9 b)(d):Ru r b d (pj b d):=by
 have a:=l.size;have C:=a.aM;unfold pj;by_cases n:d.1=1
 .rw[bs n];exact⟨⟨fF (kz _ _) a.a2,λt g=>a.bs t (kB.1 g).1,a.a7,a.bz,a.aM⟩,WM b d a n⟩
 rw[bm n];by_cases i:d.1=2
 .rw[bs i];by_cases e:d.2.1<0∨d.2.1>c b.2.2
  .rw[bs e];exact⟨a,IP b d b a i (Tp b d.2.1 a.aM e)⟩
  rw[bm e];have o:d.2.1=(d.2.1.toNat:Nat):=y;have u:=Tq (r:=r) b d.2.1.toNat y a.a7 l.num a.aM;rw[<-o]at u;refine⟨⟨a.a2,a.bs,fF (kz _ _) a.a7,λB z=>a.bz B (kB.1 z).1,?_⟩,IP b d _ a i u⟩;simp;omega
 rw[bm i];by_cases e:d.1=3
 .rw[bs e];rcases Jy l d with⟨i0,A,p⟩|o
  .have s:(b.1.map (rC d),b.2)=gY b d i0 A:=by rw[Jw p]
   rw[s];refine⟨⟨by simpa using a.a2,λt g=>?_,a.a7,a.bz,a.aM⟩,WN b d a e i0 A p⟩;rcases Aq g with g|rfl
   .exact a.bs t g
   simpa[gH]using a.bs _ (u6 p.a')
  rw[Jx o];exact⟨a,WT b d a e o⟩
 rw[bm e];by_cases j:d.1=4
 .rw[bs j];by_cases k:0<=d.2.1/\d.2.1<c b.2.2
  .rw[bs k];have w:(b.2.2.getD (0+d.2.1.toNat) a2.I)∈b.2.2:=M;have u:=l.aM _ w;have x:a7 .i64 (3-lq b d):=QW;have v:=WP (r:=r) b d a j k.1 k.2 x;have s:b.2.2.set (0+d.2.1.toNat) (3-lq b d,(b.2.2.getD (0+d.2.1.toNat) a2.I).2)=b.2.2.set d.2.1.toNat (3-(b.2.2.getD d.2.1.toNat (0,0)).1,(b.2.2.getD d.2.1.toNat (0,0)).2):=M;rw[s]at v;exact⟨⟨a.a2,a.bs,a.a7,a.bz,by simpa using a.aM⟩,v⟩
  rw[bm k];exact⟨a,WQ b d a j k⟩
 rw[bm j];exact⟨a,WS b d a n i e j⟩
def JL{b}(n:q9 b)(d):Y r 77 [b9 b,eB d] [] (b9 (pj b d)) []:=by
 have e:=n.size;have v:=e.aM;unfold pj;by_cases k:d.1=1
 .rw[bs k];exact Vv b d e k
 rw[bm k];by_cases g:d.1=2
 .rw[bs g];by_cases a:d.2.1<0∨d.2.1>c b.2.2
  .rw[bs a];exact Ck (Vz b d e g a)
  rw[bm a];have l:d.2.1=(d.2.1.toNat:Nat):=y;exact Vx b d e g d.2.1.toNat l y
 rw[bm g];by_cases a:d.1=3
 .rw[bs a];rcases Jy n d with⟨i0,A,o⟩|l
  .have p:(b.1.map (rC d),b.2)=gY b d i0 A:=by rw[Jw o]
   rw[p];exact VA b d e a i0 A o
  rw[Jx l];exact VC b d e a l
 rw[bm a];by_cases i:d.1=4
 .rw[bs i];by_cases j:0<=d.2.1/\d.2.1<c b.2.2
  .rw[bs j];have s:(b.2.2.getD (0+d.2.1.toNat) a2.I)∈b.2.2:=M;have w:=n.aM _ s;have t:a7 .i64 (3-lq b d):=QW;have u:=VF (r:=r) b d e i j.1 j.2 t;grind
  rw[bm j];exact VE b d e i j
 rw[bm i];exact Ck (VG b d e k g a i)
structure nR(d:p (Int×Int)):Prop where
 aM:∀l∈d,(1<=l.1/\l.1<=2)/\1<=l.2/\l.2<=20
 cy:c d<=9
theorem nR.of{d}(a:g6 d=f):nR d:=⟨(J4 a).1,(J4 a).2⟩
def nR.take{d}(a:nR d)(e):nR (d.take e):=⟨λg b=>a.aM g (hc b),by have:=a.cy;rw[List.length_take];omega⟩
def Mh{d}(a:e<c d):gw (d.take (e+1))=64*gw (d.take e)+21*(d.getD e (0,0)).1+(d.getD e (0,0)).2:=by unfold gw;rw[ia a (0,0),ur];rfl
def Xf(d)(e:nR d):Y r 100 [a2.S d] [] (S (gw d)) []:=by
 refine Y.K func100 rfl λn=>?_;have t:=e.cy;refine aZ a v (g.aN 0 (λb=>b<=c d) (λb:Nat=>[(0,a2.S d),(3,S (gw (d.take b))),(4,S b)]) (λ_=>[]) (λb=>c d-b) 0 a (by simp[gw]) a v a y ?_);intro b k;by_cases i:b<c d
 .have j:d.getD b a2.I=d.getD b (0,0):=rfl;have p:=Mh i;have o:=zd e.aM e.cy b;have l:=zd e.aM e.cy (b+1);have s:=e.aM _ (mw i (0,0));refine a6 [(8,f)] a ?_ (g.aB (b+1) a ?_ v i y)
  .simp only[U,c1,j,a7,bA,ba,a9];exact fp
  simp only[U.Y,U,c1,j,ba,a9];and_intros<;>first|exact bt.same|omega
 obtain rfl:b=c d:=y;rw[c9];exact Pj
abbrev Hh:bK:=df (eX a2) (λa=>S (gw a)) λa=>[nR a]
def ad_:bL r 100 Hh:=.bb λb a=>Xf b a
abbrev qd(a:Int×Int):z:=.q (.agg [.c (.int .i64 a.1),.c (.int .i64 a.2)])
abbrev pD(a:(Int×Int)×Int):z:=.Q [.agg [.c (.int .i64 a.1.1),.c (.int .i64 a.1.2)],.aq (.c (.int .i64 a.2))]
def WL(A)(d)(u:c d<=4000000):Y r 60 [qd A,a2.S d] [] (pD (ny A d)) []:=by
 refine Y.bE func60 rfl rfl rfl λt=>?_;have b:a8 r [(94,n3),(100,Hh)]:=.cons Mr (.cons ad_ .nil);unfold ny;cases b1:g6 d with
 |false=>
  rw[bm E];exact bf b [(8,f),(15,f),(20,f)] a Fu r6
 |true=>
 have i:=nR.of b1;by_cases l:A.1<=c d
 rotate_left
 .rw[bm (by simp[l])];exact bf b [(8,m),(15,f),(20,f)] a QN r6
 by_cases I:0<=A.1
 rotate_left
 .rw[bm r'];exact bf b [(8,m),(15,m),(20,f)] a PV r6
 rw[bs ⟨rfl,l,I⟩];have s:(A.1.toNat:Int)=A.1:=rb I;have n:a2.af (bS (c d) (h A.1)-bS 0 q) (fw (bS 0 q) (a2.fn d))=d.take A.1.toNat:=by have o:bS (c d) (h A.1)-bS 0 q=A.1.toNat:=wx;rw[o,a2.hk d (λp j=>by simp[fw,bS]) y]
 have k:a2.bW (bS (c d) (h A.1)-bS 0 q) (fw (bS 0 q) (a2.fn d)):=a2.g9 d (λp j=>by simp[fw,bS]);by_cases e:gw (d.take A.1.toNat)=A.2
 .rw[bs e];refine bf b [(8,m),(15,m),(20,m),(29,m)] a ?_ ?_
  .simp only[U,jc,n,k,b1,i,i.take,e,a2.E,a2.U,gj,bA,dt,iB,ba,a9];omega
  refine g.freeze 4 1 a a a ?_;exact g.cp bd [] a (by simp[a2.E]) a a a fI
 rw[bm e];refine bf b [(8,m),(15,m),(20,m),(29,f)] a ?_ ?_
 .simp only[U,jc,n,k,b1,i,i.take,a2.E,a2.U,gj,bA,dt,j8,ba,a9];and_intros<;>first|exact e|omega
 exact r6
def fU(d:Int)(b:dT)(a:Int)(e:p c'):dT×Bool:=
 if rL d b a e=f then(if fJ d b.1 e=f then(b,m)else(rS d b a e,f))else(kS,m)
structure pU(Q:dT):Prop where
 bm:dN Q.1
 cb:pS Q.1
 cy:c Q.2.1<=4000000
 cL:c Q.2.2<=4000000
def fi.b8{b}(a:fi k b)(d:k<=1000000):pU b:=⟨a.bm.toj3.et,a.j1,by have:=a.cb;omega,by have:=a.cL;omega⟩
def Xk(i)(b)(ct)(o)(l:pU b):Y r 59 [S i,gm b,S ct,bD.S o] [] (jW (fU i b ct o).1 (fU i b ct o).2) []:=by
 refine Y.bE func59 rfl rfl rfl λL=>?_;have k:a8 r [(25,Bx),(24,jF),(31,sG),(36,xl),(90,Bq),(91,xj)]:=.cons MC (.cons ks (.cons zf (.cons Ee (.cons Mt (.cons Ec .nil)))));have aa:=l.cb;have x:(b.1,b.2.1,b.2.2)=b:=rfl;have V:fU i b ct o=if g_ i b=f then(if 1<=ct/\ct<=2 then(if dR o=f then(if fJ i b.1 o=f then(b,m)else(rS i b ct o,f))else(kS,m))else(kS,m))else(kS,m):=by unfold fU rL;by_cases ae:g_ i b=f<;>by_cases C:1<=ct/\ct<=2<;>by_cases t:dR o=f<;>simp[ae,C,t]
 rw[V];cases ae:g_ i b with
 |false=>
  rw[bm E];refine bf k [(18,f),(23,f),(28,f)] a ?_ ?_
  .simp only[U,a1.E,a1.U,bj.E,bj.U,a2.E,a2.U,aB.E,aB.U,x,ae,aa,il,ba,a9]
  exact zG
 |true=>
 rw[bs a];by_cases C:1<=ct/\ct<=2
 rotate_left
 .rw[bm C];refine bf k [(18,m),(23,f),(28,f)] a ?_ ?_
  .simp only[U,a1.E,a1.U,bj.E,bj.U,a2.E,a2.U,aB.E,aB.U,x,ae,aa,gj,ba,a9];grind
  exact zG
 rw[bs C];cases t:dR o with
 |false=>
  rw[bm E];exact bf k [(18,m),(23,m),(28,f)] a Fi zG
 |true=>
 rw[bs a];have s:=ze.1 ae;have aQ:=s.tonV.h0;have K:=aQ.fL;have n:=WH (r:=r) i b.1 ct o s.key l.bm K (r1 t) aQ.j8;cases w:fJ i b.1 o with
 |true=>
  rw[w,bs a]at n;rw[bs a];refine bf k [(18,m),(23,m),(28,m)] a Fi (g.aF n [] a (bf k [(42,f)] a ?_ ?_))
  .simp only[U,a1.E,a1.U,bj.E,bj.U,a2.E,a2.U,aB.E,aB.U,x,l.bm,l.cy,l.cL,gj,il,ba,a9]
  refine g.freeze 8 1 a a a ?_;exact g.cp bd [] a zS a a a fI
 |false=>
 rw[w,bm E]at n;rw[bm E];refine bf k [(18,m),(23,m),(28,m)] a Fi (g.aF n [] a ?_);have F:=aQ.dc (i:=i) (o:=o) (ct:=ct) (by have:=w9 1 s.dp λp J=>(s.a7 p J).1;omega) t w;have O:(hR i b.1 ct o).2.1.length=c b.1.2.1+1:=by simp[hR]
 have R:(hR i b.1 ct o).2.1.getD ((hR i b.1 ct o).2.1.length-1) (0,[])=gQ (dF b.1) i o:=by rw[O];simp[hR,al]
 have N:=F.cZ (gQ (dF b.1) i o) M;have X:=v6 N.2;have H:=tg (gQ (dF b.1) i o).2;have G:=F.ej;have W:=l.cy;unfold rS;generalize hR i b.1 ct o=j at *;generalize gQ (dF b.1) i o=p at *;have T:((c j.2.1:Int)-1).toNat=c j.2.1-1:=y;have A:j.2.1.getD ((c j.2.1:Int)-1).toNat bj.I=p:=by rw[T];exact R
 refine bf k [(42,m)] a ?_ ?_
 .simp only[U,A,a1.E,a1.U,bj.E,bj.U,a2.E,a2.U,aB.E,aB.U,cu.E,cu.U,x,l.bm,l.cy,l.cL,a7,gj,il,ba,a9];omega
 rw[A];simp only[cu.E];generalize gF p.2=d at *;refine g.aN 4 (λe=>e<=c d) (λe:Nat=>[(5,aG 0 0),(8,aG 1 0),(10,aG 2 0),(12,aG 3 0),(13,aB.S d),(14,S e)])
  (λe=>[gd b,.cells 30 l7,jT j,gd (j,(d.take e).foldl e4 b.2.1,b.2.2)]) (λe=>c d-e) 0 a ?_ a ?_ a y ?_
 .simp
 .exact zS
 intro e Q;by_cases u:e<c d
 .have D:d.getD e aB.I=d.getD e 0:=rfl;have z:=x' e4 b.2.1 u;have I:=qm b.2.1 (d.take e);rw[List.length_take]at I;generalize(d.take e).foldl e4 b.2.1=i7 at *;have B:=aB.E i7;refine bf k [(58,f)] a ?_ (g.aB (e+1) a ?_ ?_ u y)
  .simp[-al,D,u,B,aB.U,a7];omega
  .simp
  rw[z];simp[-al,D,B]
 obtain rfl:e=c d:=y;rw[c9];refine bf k [(58,m)] a E (g.aD ?_);exact cG k a v zG
def IT(d)(b:nR d)(A)(s:A<=c d):Y r 148 [ax (iu d),S A] [] (S (gw (d.take A))) []:=by
 refine Y.K func148 rfl λt=>?_;have x:=b.cy;refine aZ a v (g.loop (λe=>e<=A) (λe:Nat=>[(0,ax (iu (d.drop e))),(1,S ((A:Int)-e)),(5,S (gw (d.take e)))]) (λ_=>[]) (λe=>A-e) 0 y (.cons a (eC a (by simp[gw]))) a ?_);intro e n;by_cases l:e<A
 .have i:=Mh (d:=d) (e:=e) y;have u:=zd b.aM b.cy e;have p:=zd b.aM b.cy (e+1);have w:=b.aM _ (mw (e:=e) (d:=d) y (0,0));rw[H7 (e:=e) y]
  generalize d.getD e (0,0)=o at *;generalize k:d.drop (e+1)=j;cases j<;>(
   refine aZ a v (g.aP (tt a underlying185 a a a) a a ?_);refine a6 [(8,f),(11,f)] a ?_ ⟨e+1,l,by omega,.cons (by rw[k];rfl) (eC a ?_),a⟩
   .simp only[U,a7,bA,ba,a9];exact Fh
   .simp only[U.Y,U,ba,a9];and_intros<;>omega)
 obtain rfl:e=A:=y;generalize d.drop e=j;cases j with
 |nil=>
  refine aZ a v (g.aP (rM a underlying185 a a a) a a ?_);refine a6 [(8,m),(11,m)] a E (g.bt a a ?_);exact wn
 |cons o j=>
  refine aZ a v (g.aP (tt a underlying185 a a a) a a ?_);refine a6 [(8,f),(11,m)] a E (g.bt a a ?_);exact wn
def VM(d)(j:c d<=4000000):Y r 149 [a2.S d] [] (S (if g6 d=f then gw d else -1)) []:=by
 refine Y.K func149 rfl λk=>?_;have i:=Iz (r:=r) d j;cases b1:g6 d with
 |false=>
  have b:a8 r [(106,n3)]:=.cons tG .nil;refine bf b [(5,f)] a Fu (g.aw a)
 |true=>
  have e:=IT (r:=r) d (.of b1) (c d) (bC _);rw[c9]at e;have b:a8 r [(106,n3),(147,eY [a2.S d] (ax (iu d))),(148,eY [ax (iu d),S (c d)] (S (gw d)))]:=.cons tG (.cons (fo i) (.cons (fo e) .nil));generalize gw d=l at *;cases d<;>(
   refine bf b [(5,m)] a ?_ (g.aw a);simp only[U,b1,a2.E,a2.U,gj,ba,a9]
   and_intros<;>rfl)
def WK(A)(d)(j:c d<=4000000):Y r 115 [qd A,a2.S d] [] (pD (ny A d)) []:=by
 refine Y.bE func115 rfl rfl rfl λu=>?_;have n:=Iz (r:=r) d j;have i:=VM (r:=r) d j;have e:a8 r [(106,n3)]:=.cons tG .nil;unfold ny;cases b1:g6 d with
 |false=>
  rw[bm E];exact bf e [(9,f),(16,f),(21,f)] a Fu r6
 |true=>
 have s:=nR.of b1;by_cases k:A.1<=c d
 rotate_left
 .rw[bm (by simp[k])];exact bf e [(9,m),(16,f),(21,f)] a QN r6
 by_cases I:0<=A.1
 rotate_left
 .rw[bm r'];exact bf e [(9,m),(16,m),(21,f)] a PV r6
 rw[bs ⟨rfl,k,I⟩];have p:(A.1.toNat:Int)=A.1:=rb I;have l:=IT (r:=r) d s A.1.toNat y;rw[bs b1]at i;rw[p]at l;have iq:a8 r [(106,n3),(147,eY [a2.S d] (ax (iu d))),(148,eY [ax (iu d),S A.1] (S (gw (d.take A.1.toNat)))),(149,eY [a2.S d] (S (gw d)))]:=.cons tG (.cons (fo n) (.cons (fo l) (.cons (fo i) .nil)));generalize gw d=t at *;generalize gw (d.take A.1.toNat)=o at *;by_cases b:o=A.2
 .rw[bs b];cases d<;>(
   refine bf iq [(9,m),(16,m),(21,m),(23,m)] a ?_ ?_
   .simp only[U,b1,b,a2.E,a2.U,gj,bA,dt,iB,ba,a9];exact qW
   refine g.freeze 4 1 a a a ?_;exact g.cp bd [] a E a a a fI)
 .rw[bm b];cases d<;>(
   refine bf iq [(9,m),(16,m),(21,m),(23,f)] a ?_ ?_
   .simp only[U,b1,a2.E,a2.U,gj,bA,dt,j8,ba,a9];and_intros<;>first|exact b|rfl|omega
   refine g.freeze 4 1 a a a ?_;exact g.cp bd [] a E a a a fI)
def rk(a:Int):Bool:=decide (1<=a/\a<=2)
def TA(k):Y r 38 [S k] [] (bi (rk k)) []:=by
 refine Y.K func38 rfl λb=>?_;unfold rk;by_cases u:k=1
 .refine a6 [(5,f)] a gT (g.aw a ?_);simp[u]
 refine a6 [(5,m)] a gT (g.aw a ?_);simp only[U,a9];rw[oX];simp only[hd,bA];omega
abbrev Bm:bK:=df c8 (λa=>bi (rk a)) λ_=>[]
def Mn:bL r 38 Bm:=.bb λa _=>TA a
def JB:bv:=⟨1,8,m,TypeDesc.map 3 4,[.val (.map q)],[]⟩
def X':dO V 109 JB:=⟨underlying109,rfl,⟨Tryz.t109,_,hu type109,rfl,rfl,rfl,rfl,⟨#[],rfl⟩,rfl⟩,λb=>absurd a b⟩
def da:bn V ((109,JB)::eP):=bn.cons X' bd
abbrev sO(a:Z):z:=cM a
abbrev jb(a:Z)(b:p Int):an:=.J (iY a b)
def Ie(s)(e d):Y r 65 [sO s,aB.S d] [jb s e] (.Q []) [jb s (e++d)]:=by
 refine Y.K func65 rfl λi=>?_;have n:=i.S 1 a;refine g.aU b5 da a8.nil [] 100 a v (g.aN 1 (λb=>b<=c d) (λb:Nat=>[(0,sO s),(6,aB.S d),(7,S (c d)),(8,S b)]) (λb=>[jb s (e++d.take b)]) (λb=>c d-b) 0 a E a E a y ?_);intro b l;by_cases k:b<c d
 .have o:d.getD (b:Int).toNat aB.I=d.getD b 0:=dA;refine g.aU b5 da a8.nil [(9,f)] 100 a bX (g.aP (a0.jS a underlying109 underlying3 (j:=0) a a a a) a a ?_);refine g.aU b5 da a8.nil [] 100 a bJ (g.aB (b+1) a E ?_ k y);simp_all
 obtain rfl:b=c d:=y;rw[c9];refine g.aU b5 da a8.nil [(9,m)] 100 a E (g.aD ?_);exact bT.di [0] a E a a a h3
def V9(b)(d)(k):Y r 68 [S k,ax (.O [.val b])] [jb b d] (bi (!d.contains k)) [jb b d]:=by refine Y.K func68 rfl λi=>?_;refine g.aU b5 da a8.nil [] 100 a v ?_;refine g.aP (a0.jQ a underlying109 underlying3 (λe=>Tryz.zeroValue4 e) (j:=0) a a a) a a ?_;exact g.aU b5 da a8.nil [] 100 a v (g.aS [0] a E h3)
def U5(b)(k):Y r 70 [fz b,ax (.O [.int .i64 k])] [] (bi (b.1==k)) []:=by refine Y.K func70 rfl λd=>?_;exact aZ a v (g.aw a)
def Ch(l)(b:c l.2<=4000000)(d:c (d_ l.2)<=4000000):Y r 67 [iJ l] [] (aB.S (fV l)) []:=by refine Y.K func67 rfl λe=>?_;refine aZ a v ?_;refine g.aF (WW l b d) [] a ?_;exact aZ a v (g.aw a)
def oP(g:Z)(i:Nat)(b:Array MapEntry)(e:Nat):Z->(Nat->Option Obj)->Prop:=λj a=>j=g/\∀d,a d=if d=i then h (.map b e)else q
def iN(a:MapEntry):Int:=match a.key with|.int _ b=>b|_=>0
structure oQ(I:Z)(d:p Int)(a':Nat)(T:Array MapEntry)(s:Nat):Prop where
 cb:I=.map (h a')
 bC:MapKept.Stamped T s
 cv:∀aj∈T.toList,aj.key=.int .i64 (iN aj)/\a7 .i64 (iN aj)/\aj.val=.bool f
 mem:∀k,k∈d↔k∈T.toList.map iN
def iY.j'{I}{d}(t:iY I d aa k6):∃b:{b:Nat×Array MapEntry×Nat // oQ I d b.1 b.2.1 b.2.2},oP I b.1.1 b.1.2.1 b.1.2.2 aa k6:=by
 obtain⟨k,x,g,p,l,w,u,v,o⟩:=t;have j:∀a∈g.toList,a.key=.int .i64 (iN a)/\a7 .i64 (iN a)/\a.val=.bool f:=λa e=>by
  obtain⟨n,k1,r,s⟩:=v a e;have:iN a=n:=by simp[iN,k1]
  rw[this];exact⟨k1,s,r⟩
 refine⟨⟨(x,g,p),l,u,j,λn=>?_⟩,k,w⟩;rw[o,k2];constructor
 .rintro⟨a,e,i⟩;exact⟨a,e,by simp[iN,i]⟩
 rintro⟨a,e,rfl⟩;exact⟨a,e,(j a e).1⟩
def oQ.cS{I}{d}{a'}{T}{s}(e:oQ I d a' T s)(g:oP I a' T s aa k6):iY I d aa k6:=by
 refine⟨g.1,a',T,s,e.cb,g.2,e.bC,λb a=>⟨_,(e.cv b a).1,(e.cv b a).2.2,(e.cv b a).2.1⟩,λj=>?_⟩;rw[e.mem,k2];constructor
 .rintro⟨b,a,rfl⟩;exact⟨b,a,(e.cv b a).1⟩
 rintro⟨b,a,i⟩;exact⟨b,a,by simp[iN,i]⟩
def ug(a:Array MapEntry)(pre:p Int)(b:Array Nat):Prop:=pre.Nodup/\(∀e∈pre,e∈a.toList.map iN)/\∀d∈a.toList,d.born∈b↔iN d∈pre
section
variable {I:Z}{d:p Int}{a' s:Nat}{T:Array MapEntry}(bc:oQ I d a' T s)
include bc
def oQ.ax:(T.toList.map iN).Nodup:=by
 have b:T.toList.map (·.key)=(T.toList.map iN).map (Value.int .i64):=by rw[List.map_map];exact wK λa d=>(bc.cv a d).1
 have:=bc.bC.2.2;rw[b]at this;rw[List.Nodup,wQ]at this;exact this.imp λb a=>b (eI (Value.int .i64) a)
def oQ.step{pre}{dw}(j:ug T pre dw){b}(g:b∈T.toList)(k:b.born∉dw):ug T (pre++[iN b]) (dw.push b.born)/\iN b∉pre:=by
 have l:iN b∉pre:=λn=>k ((j.2.2 b g).2 n);refine⟨⟨by grind[ug],λo e=>?_,λi a=>?_⟩,l⟩
 .rcases gk.1 e with e|e
  .exact j.2.1 o e
  rw[gW.1 e];exact List.mem_map_of_mem g
 simp only[Array.mem_push,gk,gW,j.2.2 i a];refine or_congr_right ⟨λd=>?_,λd=>?_⟩
 .rw[Dg bc.bC.2.1 a g d]
 rw[Dg bc.ax a g d]
def oQ.over{pre}{dw}(g:ug T pre dw)(j:∀e∈T.toList,e.born∈dw):pre.Nodup/\∀b,b∈pre↔b∈d:=by refine⟨g.1,λb=>⟨λa=>(bc.mem b).2 (g.2.1 b a),λa=>?_⟩⟩;obtain⟨e,i,rfl⟩:=k2.1 ((bc.mem b).1 a);exact(g.2.2 e i).1 (j e i)
end
def x7{b}:∀a,a<1->(0::b)[a]?=h a:=λa d=>by simp_all
abbrev xo(a:Z):N:=.fn (.func 172) [] [.O [.val a]]
def Vd(I):Y r 126 [sO I] [] (ax (xo I)) []:=by refine Y.K func126 rfl λb=>?_;refine g.aU b5 da a8.nil [(1000001,f)] 100 a v ?_;refine g.freeze 1 0 a a a ?_;exact g.aU b5 da a8.nil [] 100 a v (g.aw a)
set_option maxRecDepth 20000 in
def Ve{ad:Type}{I}{d}{a'}{T}{s}(l:oQ I d a' T s){i}{e}{w}(u x:ad->an)(y:p Int->ad->Prop)(t)(R:y [] t)(aE:∀k,u k≠.bn/\x k≠.bn)(j:∀pre b k M,b∉pre->pre.Nodup->(∀X∈pre++[b],X∈d)->y pre k->iy (ι:={n:ad // y (pre++[b]) n}) r 3 [S b] [.J (oP I a' T s),u k,x k,.loop i e w,.J M] f (λn=>[.J (oP I a' T s),u n.1,x n.1,.loop i e w,.J M])):
  bk (ι:={C:ad×p Int×Array Nat // (C.2.1.Nodup/\∀K,K∈C.2.1↔K∈d)/\y C.2.1 C.1}) r 172 [.q (.aq (.aQ 3)),ax (.O [.val I])] [.J (oP I a' T s),u t,x t,.loop i e w] (λ_=>.Q []) (λA=>[.J (oP I a' T s),u A.1.1,x A.1.1,.loop i e w,.J (kX a' s A.1.2.2)]):=by
 obtain rfl:=l.cb;have F:ud (oP (.map (h a')) a' T s) a' T s:=λY U V=>by rw[V.2];simp
 refine bk.bR func172 rfl rfl rfl (g.aW ?_);refine g.aU b5 da a8.nil [] 100 a v (g.range (qA:=0) (a':=a') a a a a underlying109 (bV.kh a) a F ?_);refine g.aU b5 da a8.nil [] 100 a v ?_;show bY r _ (.loop _) _ _ _;refine bY.loop (bq:=ad×p Int×Array Nat) (λb=>ug T b.2.1 b.2.2/\y b.2.1 b.1) (λ_=>[(0,.q (.aq (.aQ 3))),(5,.q (.aq (.aQ 4)))]) (λb=>[.J (oP (.map (h a')) a' T s),u b.1,x b.1,.loop i e w,.J (kX a' s b.2.2)]) (λb=>c T.toList-c b.2.1) (t,[],#[]) ⟨⟨List.nodup_nil,by simp,by simp⟩,R⟩ (eC a E) a ?_;rintro⟨k,pre,dw⟩ ⟨J,O⟩;refine g.aW ?_;refine g.aU b5 da a8.nil [] 100 a v (g.next (qA:=0) (kh:=4) (a':=a') (s:=s) (dw:=dw) (T:=T) a a a a a a a a F l.bC (λaj o=>⟨by rw[(l.cv aj o).1];rfl,by rw[(l.cv aj o).2.2];rfl⟩) λA=>?_);cases A with
 |over D=>
  refine g.aU b5 da a8.nil [(7,m)] 100 a E (g.fF a a ?_);exact⟨⟨(k,pre,dw),l.over J D,O⟩,.inr a,a,qD (bU:=.J _) E (qD (aE k).1 (qD (aE k).2 a)),[],.Q [],[],a,a,a,v⟩
 |aq aj o H=>
  refine g.aU b5 da a8.nil [(7,f)] 100 a E ?_;obtain⟨k1,N,z⟩:=l.cv aj o;obtain⟨B,G⟩:=l.step J o H;refine g.entry (qA:=0) (kh:=4) (a':=a') (s:=s) (dw:=dw) (T:=T) (aj:=aj) (X:=.Q [.aq (.c (.int .i64 (iN aj))),.aq .any]) a a a a a a a F l.bC o (λW=>⟨[aj.key,aj.val],a,?_,by rw[z];rfl,v⟩) ?_
  .rw[k1];exact Rd.int N
  refine g.aU b5 da a8.nil [] 100 a v (g.yield (j pre (iN aj) k _ G J.1 (λX Q=>(l.mem X).2 (B.2.1 X Q)) O) a a a a a a λn=>?_);refine g.aU b5 da a8.nil [(13,m)] 100 a E ⟨(n.1,pre++[iN aj],dw.push aj.born),⟨B,n.2⟩,?_,eC a E,a⟩;have:=yA _ _ B.1 B.2.1;simp at this⊢;omega
abbrev Aj(d:p Int):Type:={b:p Int // b.Nodup/\∀a,a∈b↔a∈d}
set_option maxRecDepth 20000 in
def Tj(I)(d)(K:c d<=4000000):
  bk (ι:=Aj d) r 210 [ax (.S f 0 0 λ_=>[]),ax (xo I)] [jb I d] (λb=>cy 1 (.S (c b.1) 1 0 (c b.1))) (λb=>[jb I d,ja (c b.1) b.1]):=by
 refine bk.e3 func210 rfl rfl rfl λJ=>?_;refine db.seq (bY.bA (g.aW ?_));refine aZ a v (db.seq (db.seq (bY.bA (g.aW ?_))));refine g.gy 0 (λb:{b:Nat×Array MapEntry×Nat // oQ I d b.1 b.2.1 b.2.2}=>oP I b.1.1 b.1.2.1 b.1.2.2) a (λB e i=>iY.j' i) ?_;rintro⟨⟨N,x,E⟩,b⟩;refine g.eh 1 0 3 1 (aB.fn []) a a ?_;refine aZ a v (db.block ?_);refine db.rangeFunc (o3:=e0 [.O [.val I]]) (bV.callee a) (Ve (ad:=p Int) b (λo=>.cells 28 [.R 2 (.S (c o) 1 0 (c o))]) (λo=>ja (c o) o) (λpre o=>o=pre) [] a (λo=>⟨by simp,by simp⟩) ?_) (λn=>⟨a,by simp⟩) λn=>⟨.normal,a,?_⟩
 .rintro pre l o t k A s rfl;have F:c o+1<=4000000:=by have:=yA (o++[l]) d M s;simp at this;omega
  refine iy.intro (w:=q) a a a a (g.aW ?_);refine aZ a v ⟨a,a,g.aW ?_⟩;refine aZ a (by simp[a7,show ec.bytes=8 from a];omega) ?_;have j:=aB.a0 o l;refine⟨a,a,⟨o++[l],a⟩,jN a ?_⟩;simp only[U.Y,U,dm,gU,ba,a9];and_intros<;>first|exact j|rfl|exact bt.same
 show db r _ _ _ _ _;obtain⟨⟨o,pre,z⟩,u,y⟩:=n;obtain rfl:o=pre:=y;refine bY.bA (g.aW ?_);refine g.gy (ι:=Unit) 0 (λ_=>iY I d) a (λB e i=>⟨(),b.cS i⟩) λ_=>?_;refine aZ a v (g.bS (λj C D b=>⟨⟨o,u⟩,b⟩) (g.aS [0,2] a ?_ x7));simp
def TM(I)(d)(e:c d<=4000000):
  bk (ι:=Aj d) r 171 [ax (xo I)] [jb I d] (λb=>cy 1 (.S (c b.1) 1 0 (c b.1))) (λb=>[jb I d,ja (c b.1) b.1]):=by refine bk.cu func171 rfl rfl rfl λi=>?_;refine aZ a v (g.bQ (Tj I d e) [0] a a a a E a a a bl a bl a λb=>?_);refine aZ a v (g.bL b (g.aS [0,1] a ?_ x7));simp
def ab6{d aM}(k:aM.Pairwise (· < ·))(n:∀g,g∈aM↔g∈d)(a:Aj d):jV a.1=aM:=by
 have i:(jV a.1).Pairwise λb e=>b<=e:=(List.pairwise_mergeSort (λb e o i j=>by grind) (λb e=>by grind) a.1).imp λl=>by grind
 have j:(jV a.1).Nodup:=(y9 _).nodup_iff.2 a.2.1;refine AS ?_ k λg=>by rw[(y9 _).mem_iff,a.2.2,n]
 exact(i.and j).imp λl=>by omega
def W4(I)(b aM:p Int)(n:c b<=4000000)(o:aM.Pairwise (· < ·))(l:∀e,e∈aM↔e∈b):
  Y r 125 [ax (xo I)] [jb I b] (cy 1 (.S (c aM) 1 0 (c aM))) [jb I b,ja (c aM) aM]:=by
 refine Y.K func125 rfl λt=>?_;refine aZ a v (g.a9 (TM I b n) [0] a bl λd=>?_);have k:=ab6 o l d;have u:=yA d.1 b d.2.1 λe s=>(d.2.2 e).1 s;have j:=Cl (r:=r) d.1 y;have i:c d.1=c aM:=by rw[<-k,qL]
 rw[k,i]at j;rw[i];refine aZ a v (g.aF j [1] a (aZ a v (g.aS [0,1] a ?_ x7)));simp
def VH(I)(d aM)(i:c d<=4000000)(e:aM.Pairwise (· < ·))(j:∀b,b∈aM↔b∈d):
  Y r 84 [sO I] [jb I d] (aB.S aM) [jb I d]:=by
 have k:Y r 84 [sO I] [jb I d] (cy 1 (.S (c aM) 1 0 (c aM))) ([jb I d]++[ja (c aM) aM]):=by refine Y.K func84 rfl λl=>?_;refine g.aU b5 da a8.nil [] 100 a v (g.aF (Vd I) [] a (g.aU b5 da a8.nil [] 100 a v (g.aF (W4 I d aM i e j) [0] a (g.aU b5 da a8.nil [] 100 a v (g.aS [0,1] a ?_ x7)))));simp
 exact Y.bO k a E a (bC _)
abbrev jC(b:Nat)(a:p Int):an:=.h 3 1 b (aB.fn a)
end
section
variable {r:ai V}
abbrev Rp:={a:p Int // c a<=5}
def U'(A)(e:Nat->Int)(w:Bytes e)(i:Nat)(o:i<=500000)(k:A<=1048576):
  bk (ι:=Rp) r 30 [aG 0 0] [ef A e i] (λx=>aB.S x.1) (λ_=>[ef A e (i+5:Nat)]):=by
 refine bk.cu func30 rfl rfl rfl λF=>?_;refine a6 [(1000002,f)] a v (g.bP 3 3 1 a a ?_);refine aZ a v (g.aN 2 (λb:Nat×p Int=>1<=b.1/\b.1<=6/\c b.2+1<=b.1) (λb=>[(0,aG 0 0),(3,.q (.aq (.r 1 1 (c b.2) (aB.fn b.2)))),(4,S b.1)]) (λb=>[ef A e (i+(b.1-1):Nat),.r 3 1 (c b.2) (aB.fn b.2)]) (λb=>6-b.1) (1,[]) a E a E a ⟨by decide,by decide,by decide⟩ ?_);rintro⟨d,j⟩ ⟨t,n,u⟩;simp only at t n u;by_cases D:d<=5
 .refine a6 [(7,f)] a bw (g.a9 (hH A e w (i+(d-1)) 2 y k y) [0] a bl ?_);rintro⟨z,B,C⟩;by_cases l:z=0
  .have s:=aB.a0 j (d:Int);refine a6 [(12,f)] a ?_ (g.aB (d+1,j++[(d:Int)]) a ?_ ?_ ⟨by omega,by omega,by grind⟩ y)
   .simp only[U,l,a7,show ec.bytes=8 from a,fX,ba,a9];exact fp
   .exact NY
   exact NY
  refine a6 [(12,m)] a bJ (g.aB (d+1,j) a E ?_ ⟨by omega,by omega,by exact bw⟩ y);exact bw
 obtain rfl:d=6:=y;refine a6 [(7,m)] a E (g.aD ?_);refine aZ a v (g.bL ⟨j,by omega⟩ (g.aS [0] a ?_ nf));simp
def zw:p bE:=[[122,122],[98,46],[104,101,108,108,111,46,46,46]]
def aex:bt 3 (λa=>([[.V [122,122]],[.V [98,46]],[.V [104,101,108,108,111,46,46,46]]]:p (p N)).getD a []) (bQ.fn zw):=by intro a b;have:a=0∨a=1∨a=2:=y;rcases this with rfl|rfl|rfl<;>rfl
set_option maxRecDepth 20000 in
def Vu(A)(b:Nat->Int)(i:Bytes b)(d:Nat)(n:d<=500000)(e:A<=1048576):
  bk (ι:=dV) r 29 [aG 0 0] [ef A b d] (λo=>eB o) (λ_=>[ef A b (d+4:Nat)]):=by
 refine bk.bE bd func29 rfl rfl rfl λs=>?_;refine aZ a v (g.a9 (hH A b i d 5 y e y) [0] a bl ?_);rintro⟨j,_⟩;refine aZ a v (g.a9 (hH A b i (d+1) 5 y e y) [0] a bl ?_);rintro⟨l,_⟩;refine aZ a v (g.a9 (hH A b i (d+1+1) 3 y e y) [0] a bl ?_);rintro⟨k,_⟩;refine aZ a v (g.bQ (V' A b i (d+1+1+1) y e zw b').tocD [0] a a a a ?_ a a a bl a bl a ?_)
 .simp only[U.Y,U,ba,a9];exact⟨a,aex⟩
 rintro -;generalize zw.getD (qG A b (d+1+1+1) (c zw)).toNat []=p;refine aZ a v (g.bd (j,l,k,p) [0] ?_ g2);simp
end
structure pT(Q:dT):Prop extends nU Q.1 where
 fK:c Q.2.1<=4000000
 fI:c Q.2.2<=4000000
def F4{d}(a:e<c d):c (d_ (d.getD e (0,[])).2)<=c (hf d):=by have:=F3 d (e+1);grind[AH]
def acY(i)(a):g_ i a=(hS i a.1&&(aD (c a.1.2.1)).all (λb=>!(fV (a.1.2.1.getD b (0,[]))).any λd=>!a.2.1.contains d)&&(aD (c a.2.2)).all (nu a.1.1 a.2.2)):=by rw[g_,aaq];cases hS i a.1<;>simp
def Xh(i)(j)(s:pT j):Y (ai.aT V) 37 [S i,gm j] [] (bi (g_ i j)) []:=by
 refine Y.K func37 rfl λT=>?_;have l:a8 (ai.aT V) [(64,xu)]:=.cons Ek .nil;have X:=a1.E j.1.1;have aa:=bj.E j.1.2.1;have cL:=a2.E j.1.2.2;have a':=s.tonU;rw[acY];cases b1:hS i j.1
 .exact g.aU b5 da l [(14,f)] 100 a Q1 (g.aw a)
 refine g.aU b5 da l [(14,m)] 100 a Q1 ?_;rw[fm];refine g.hX a a a λp=>?_;refine g.aU b5 da l [] 100 a v (g.aF (Ie p [] j.2.1) [1] a ?_);rw[p1];refine g.aU b5 da l [(1000005,f)] 100 a v (g.freeze 5 2 a a a ?_);refine g.aU b5 da l [] 100 a v (g.aN 3 (λe=>e<=c j.1.2.1/\∀n,n<e->(!(fV (j.1.2.1.getD n (0,[]))).any λk=>!j.2.1.contains k)=f) (λe:Nat=>[(0,S i),(3,aG 0 0),(5,ax (.O [.val p])),(22,bj.S j.1.2.1),(23,S (c j.1.2.1)),(24,S e)]) (λ_=>[gd j,jb p j.2.1,.x]) (λe=>c j.1.2.1-e) 0 a E a E a ⟨by omega,by omega⟩ ?_);have H:=s.e_;rintro e ⟨w,r⟩;by_cases u:e<c j.1.2.1
 .have b:j.1.2.1.getD (e:Int).toNat bj.I=j.1.2.1.getD e (0,[]):=M;have B:=s.dW _ (og (I:=(0,[])) u);have O:=F4 u;have J:=s.ev;have L:=kC (R:=λn=>!(fV (j.1.2.1.getD n (0,[]))).any λk=>!j.2.1.contains k) u;have A:=iD (R:=λn=>!(fV (j.1.2.1.getD n (0,[]))).any λk=>!j.2.1.contains k) (e:=e);generalize j.1.2.1.getD e (0,[])=o at *;refine g.aU b5 da l [(25,f)] 100 a bX ?_;rw[b];refine g.aF (Ch o B.1 y) [] a (g.aU b5 da l [] 100 a v (g.aF (Uv (fV o) 68 [.val p] (iY p j.2.1) (λk=>!j.2.1.contains k) λk _=>V9 p j.2.1 k) [1] a ?_));cases G:(fV o).any λk=>!j.2.1.contains k with
  |true=>
   refine g.aU b5 da l [] 100 a v (g.aX (bT.zero a ?_));exact bJ
  |false=>
   refine g.aU b5 da l [] 100 a ?_ (g.aB (e+1) a E E ⟨u,A r M⟩ y);exact bJ
 obtain rfl:e=c j.1.2.1:=y;rw[fY.2 r,fm];refine g.aU b5 da l [(25,m)] 100 a E (g.aD ?_);refine g.aU b5 da l [] 100 a v ?_;have D:=s.fI;refine g.aN 3 (λe=>e<=c j.2.2/\∀n,n<e->nu j.1.1 j.2.2 n=f) (λe:Nat=>[(0,S i),(3,aG 0 0),(34,aB.S j.2.2),(35,S (c j.2.2)),(36,S e)]) (λ_=>[gd j,jb p j.2.1,.x]) (λe=>c j.2.2-e) 0 a E a E a ⟨by omega,by omega⟩ ?_;rintro e ⟨w,r⟩;by_cases u:e<c j.2.2
 .have b:j.2.2.getD (e:Int).toNat aB.I=j.2.2.getD e 0:=M;have C:j.2.2.getD (e-1) aB.I=j.2.2.getD (e-1) 0:=rfl;have z:nu j.1.1 j.2.2 e=((j.1.1.any λR=>R.1==j.2.2.getD e 0)&&j_ (λo=>o) 0 j.2.2 e):=rfl;have F:=p6 (ae:=λo:Int=>o) (I:=0) (d:=j.2.2) (e:=e);generalize j.2.2.getD e 0=k at *;generalize j.2.2.getD (e-1) 0=x at *;have iq:a8 (ai.aT V) [(69,eY [a1.S j.1.1,ax (.fn (.func 70) [] [.O [.int .i64 k]])] (bi (j.1.1.any λR=>R.1==k)))]:=.cons (fo (Uw j.1.1 70 [.int .i64 k] (λR=>R.1==k) λR _=>U5 R k)) .nil;refine g.aU b5 da l [(37,f),(1000014,f)] 100 a bX ?_;rw[b];refine g.freeze 9 3 a a a ?_;have fin:j.1.1.any (λR=>R.1==k)=f->j_ (λo=>o) 0 j.2.2 e=f->nu j.1.1 j.2.2 e=f:=λG K=>by grind
  by_cases N:e=0
  .subst N;cases t:j.1.1.any (λR=>R.1==k)with
   |true=>
    refine g.aU b5 da iq [(43,m),(60,m)] 100 a ?_ (g.aB 1 a E E ⟨u,iD r (fin t a)⟩ y);simp[a7,t,cY.S]
   |false=>
    refine g.aU b5 da iq [(43,m),(60,f)] 100 a bJ (g.aX (bT.zero a ?_));exact j0
  by_cases Q:x<k
  rotate_left
  .refine g.aU b5 da iq [(43,f),(51,f),(60,f)] 100 a ?_ (g.aX (bT.zero a ?_))
   .simp[-al,C,a7];omega
   exact j0
  cases t:j.1.1.any (λR=>R.1==k)with
  |true=>
   refine g.aU b5 da iq [(43,f),(51,m),(60,m)] 100 a ?_ (g.aB (e+1) a E E ⟨u,iD r (fin t M)⟩ y);exact N8
  |false=>
   refine g.aU b5 da iq [(43,f),(51,m),(60,f)] 100 a N8 (g.aX (bT.zero a ?_));exact j0
 obtain rfl:e=c j.2.2:=y;rw[fY.2 r];refine g.aU b5 da l [(37,m)] 100 a E (g.aD ?_);exact g.aU b5 da l [] 100 a v (g.aw a)
abbrev xv:bK:=ek c8 (Am Ct) (λb a=>bi (g_ b a)) λ_ a=>[pT a]
def El:bL (ai.aT V) 37 xv:=.bl λb d a=>Xh b d a
section
variable {r:ai V}
inductive Ro (ι:Type)
 |cy
 |ij (bc:ι)
 |iZ (bc:ι)
 |done (bc:ι) (aa:Z)
abbrev DI{k1}(b:Nat)(a:Nat->Int)(e:Int)(g:Bool):Ro (FG k1)->an
 |.cy=>match g with
  |false=>ef b a e
  |true=>ef b a (e+1)
 |.ij d|.iZ d|.done d _=>ef b a d.1.2
section
variable {j:Nat->Int}{bz:Int}{k1:Nat}{Q:dT}{R:FG k1->Bool}
end
end
abbrev aev(a:fs):an:=.cells 35 (nF a)
def aeA(a):hT a=(g_ a.1 a.2.1&&decide (c a.2.2.2.1=2)&&decide (c a.2.2.2.2=2)&&(aD 2).all (qQ a)):=by unfold hT;cases g_ a.1 a.2.1<;>cases decide (c a.2.2.2.1=2)<;>cases decide (c a.2.2.2.2=2)<;>simp
def XH(b)(A:pT b.2.1):Y (ai.aT V) 14 [fG b] [] (bi (hT b)) []:=by
 refine Y.K func14 rfl λD=>?_;have j:a8 (ai.aT V) [(37,xv)]:=.cons El .nil;have C:=a1.E b.2.1.1.1;have k:=bj.E b.2.1.1.2.1;have i:=a2.E b.2.1.1.2.2;have d:=aB.E b.2.1.2.1;have ae:=aB.E b.2.1.2.2;rw[aeA];cases b1:g_ b.1 b.2.1
 .exact g.aU b5 da j [(11,f),(17,f),(22,f)] 100 a (by simp[b1,C,k,i,d,ae,a1.U,bj.U,a2.U,aB.U,A]) (g.aw a)
 by_cases p:c b.2.2.2.1=2
 rotate_left
 .exact g.aU b5 da j [(11,m),(17,f),(22,f)] 100 a Fb (g.aw a (by simp[lB p]))
 by_cases o:c b.2.2.2.2=2
 rotate_left
 .exact g.aU b5 da j [(11,m),(17,m),(22,f)] 100 a Fb (g.aw a (by simp[lB o]))
 refine g.aU b5 da j [(11,m),(17,m),(22,m)] 100 a Fb ?_;rw[fk p,fk o,fm,fm,fm];refine g.aN 1 (λe=>e<=2/\∀n,n<e->qQ b n=f) (λe:Nat=>[(1,aG 0 0),(24,a2.S b.2.2.2.1),(25,S (c b.2.2.2.1)),(26,S e)]) (λ_=>[aev b]) (λe=>2-e) 0 a E a E a ⟨by omega,by omega⟩ ?_;rintro e ⟨z,l⟩;by_cases u:e<2
 .have I:b.2.2.2.1.getD e a2.I=om b e:=rfl;have s:b.2.2.2.2.getD e aB.I=oc b e:=rfl;have B:qQ b e=(decide (0<=(om b e).1/\(om b e).1<=9)&&decide (0<=(om b e).2)&&decide (0<=oc b e/\oc b e<=2)):=rfl;by_cases r:0<=(om b e).1
  rotate_left
  .refine g.aU b5 da j [(27,f),(34,f),(39,f),(44,f),(52,f),(59,f)] 100 a Fg (g.aX (bT.zero a ?_));exact j0
  by_cases t:(om b e).1<=9
  rotate_left
  .refine g.aU b5 da j [(27,f),(34,m),(39,f),(44,f),(52,f),(59,f)] 100 a Fg (g.aX (bT.zero a ?_));exact j0
  by_cases w:0<=(om b e).2
  rotate_left
  .refine g.aU b5 da j [(27,f),(34,m),(39,m),(44,f),(52,f),(59,f)] 100 a Fg (g.aX (bT.zero a ?_));exact j0
  by_cases x:0<=oc b e
  rotate_left
  .refine g.aU b5 da j [(27,f),(34,m),(39,m),(44,m),(52,f),(59,f)] 100 a QH (g.aX (bT.zero a ?_));exact j0
  by_cases F:oc b e<=2
  rotate_left
  .refine g.aU b5 da j [(27,f),(34,m),(39,m),(44,m),(52,m),(59,f)] 100 a QH (g.aX (bT.zero a ?_));exact j0
  refine g.aU b5 da j [(27,f),(34,m),(39,m),(44,m),(52,m),(59,m)] 100 a ?_ (g.aB (e+1) a E E ⟨u,iD l M⟩ y);simp[-al,I,s,a7];omega
 obtain rfl:e=2:=y;rw[fY.2 l];refine g.aU b5 da j [(27,m)] 100 a bX (g.aD ?_);exact g.aU b5 da j [] 100 a v (g.aw a)
section
variable {r:ai V}[r.b']
abbrev gf:=Int×Int×p c'×dV×p Int
abbrev B5(a:gf):p O:=[.c (.int .i64 a.1),.c (.int .i64 a.2.1),cJ bD a.2.2.1,.c (.int .i64 a.2.2.2.1.1),.c (.int .i64 a.2.2.2.1.2.1),.c (.int .i64 a.2.2.2.1.2.2.1),.c (.V a.2.2.2.1.2.2.2),cJ aB a.2.2.2.2]
abbrev lL(a:gf):z:=.q (.agg (B5 a))
abbrev aeT:p O:=[.c (.int .i64 0),.c (.int .i64 0),cB,.c (.int .i64 0),.c (.int .i64 0),.c (.int .i64 0),.c (.V []),cB]
abbrev aeU:an:=.cells 38 aeT
abbrev mU:dV:=(0,0,0,[])
structure z_(i:Nat)(bc:gf×Nat):Prop where
 dX:c bc.1.2.2.1<=7
 ko:c bc.1.2.2.2.2<=5
 hl:i<=bc.2
 gk:bc.2<=i+500
set_option maxRecDepth 20000 in
def It(A)(b:Nat->Int)(j:Bytes b)(i)(w:i<=40000)(e:A<=1048576):
  bk (ι:={l:gf×Nat // z_ i l}) r 11 [aG 0 0] [ef A b i] (λl=>lL l.1.1) (λl=>[ef A b l.1.2]):=by
 refine bk.bE bd func11 rfl rfl rfl λS=>?_;refine aZ a v (g.a9 (hH A b j i 9 y e y) [0] a bl ?_);rintro⟨d,D,F⟩;by_cases T:d<=3
 .apply g.cj [(0,aG 0 0),(2,aG 1 0)] [ef A b (i+1:Nat),aeU]
  .intro du;have:d=0∨d=1∨d=2∨d=3:=y;rcases this with rfl|rfl|rfl|rfl
   .exact a6 [(6,f),(1000006,f)] a E kv
   .exact a6 [(6,m),(7,f),(1000006,f)] a E kv
   .exact a6 [(6,m),(7,m),(8,f),(1000006,f)] a E kv
   exact a6 [(6,m),(7,m),(8,m),(9,f),(1000006,f)] a E kv
  refine aZ a v (g.a9 (hH A b j (i+1) 2 y e y) [0] a bl ?_);rintro⟨k,n,o⟩;refine aZ a tV (g.a9 (Xp A b j (i+1+1) y e) [0] a bl ?_);rintro⟨C,t,K,k1,u,J,z,R⟩;simp only;refine aZ a v (g.bd ⟨((1,1+k,C,mU,[]),k1),J,by simp,by grind,by grind⟩ [0] ?_ g2);simp
 by_cases M:d=4
 .subst M;refine a6 [(6,m),(7,m),(8,m),(9,m),(17,f)] a E (g.a9 (hH A b j (i+1) 4 y e y) [0] a bl ?_);rintro⟨k,n,o⟩;refine aZ a v (g.bd ⟨((2,k,[],mU,[]),i+1+1),by simp,by simp,by grind,by grind⟩ [0] ?_ g2);simp
 by_cases Q:d=5
 .subst Q;refine a6 [(6,m),(7,m),(8,m),(9,m),(17,m),(22,f)] a E (g.a9 (hH A b j (i+1) 2 y e y) [0] a bl ?_);rintro⟨k,n,o⟩;by_cases s:k=0
  .refine a6 [(25,f)] a (by simp[s]) (g.bd ⟨((3,0,[],mU,[]),i+1+1),by simp,by simp,by grind,by grind⟩ [0] ?_ g2);simp
  refine a6 [(25,m)] a (by simp[s]) (g.a9 (Vu A b j (i+1+1) y e) [0] a bl ?_);intro x;refine aZ a v (g.bd ⟨((3,0,[],x,[]),i+1+1+4),by simp,by simp,by grind,by grind⟩ [0] ?_ g2);simp
 by_cases I:d=6
 .subst I;refine a6 [(6,m),(7,m),(8,m),(9,m),(17,m),(22,m),(31,f)] a E (g.a9 (U' A b j (i+1) y e) [0] a bl ?_);rintro⟨c7,B⟩;refine aZ a v (g.bd ⟨((4,0,[],mU,c7),i+1+5),by simp,B,by grind,by grind⟩ [0] ?_ g2);simp
 by_cases O:d=7
 .subst O;refine a6 [(6,m),(7,m),(8,m),(9,m),(17,m),(22,m),(31,m),(36,f)] a E (g.bd ⟨((5,0,[],mU,[]),i+1),by simp,by simp,by grind,by grind⟩ [0] ?_ g2);simp
 obtain rfl:d=8:=y;refine a6 [(6,m),(7,m),(8,m),(9,m),(17,m),(22,m),(31,m),(36,m)] a E (g.a9 (hH A b j (i+1) 8 y e y) [0] a bl ?_);rintro⟨k,n,o⟩;refine aZ a v (g.a9 (hH A b j (i+1+1) 4 y e y) [0] a bl ?_);rintro⟨p,N,nD⟩;refine aZ a v (g.bd ⟨((k,p,[],mU,[]),i+1+1+1),by simp,by simp,by grind,by grind⟩ [0] ?_ g2);simp
abbrev gK(d:Int)(e:dT)(a:dV)(b:Nat):p O:=.c (.int .i64 d)::(vX e++[.c (.int .i64 a.1),.c (.int .i64 a.2.1),.c (.int .i64 a.2.2.1),.c (.V a.2.2.2),.R b (.S 2 2 0 2),.R (b+1) (.S 2 1 0 2)])
abbrev lh(c7:p (Int×Int))(a:p Int):p an:=[.h 61 2 2 (a2.fn c7),.h 3 1 2 (aB.fn a)]
abbrev CY:p (Int×Int):=[(0,0),(0,0)]
abbrev Cv:p Int:=[0,0]
omit [r.b']in
def XG(i)(b1:cK i=f):Y r 26 [S i] [] (.Q [.agg (gK i kS mU 0),.aq (.c (.bool f))]) (lh CY Cv):=by
 refine Y.bp bd func26 rfl rfl rfl λk=>?_;have b:a8 r [(51,sI)]:=.cons v3 .nil;refine a_ b [(7,m),(1000003,f)] a lv (g.region ?_);refine qI b [] 3 a v (g.gQ bd a a a a a a ?_);refine g.gQ bd a a a a a a ?_;refine b_ b a v (g.ba [.cells 35 (gK i kS mU 1),.h 61 2 2 (a2.fn CY),.h 3 1 2 (aB.fn Cv),.cells 35 (gK i kS mU 1)] a ?_ ?_)
 .simp only[U.Y,U,ba,a9];and_intros<;>first|rfl|exact bt.nil|(intro j d;match j,d with|0,_=>rfl|1,_=>rfl)
 refine g.cr () [1,2] ?_ (λl e=>absurd e E);simp
def D2(d:Int)(b:cz)(a:Int)(e:p c'):cz×Bool:=
 if hS d b=f/\(1<=a/\a<=2)/\dR e=f then(if fJ d b e=f then b else hR d b a e,!fJ d b e)else(([],[],[]),m)
end
section
variable {r:ai V}
def x6:∀a,a<2->([0,1]:p Nat)[a]?=h a:=λa b=>by
 match a,b with
 |0,_=>rfl
 |1,_=>rfl
def hO(a:Int)(e:cz)(d:dV)(b:p (Int×Int)×p Int):p (Int×Int)×p Int:=
 if b.2.getD (a-1).toNat 0=0 then(b.1.set (a-1).toNat (ny (b.1.getD (a-1).toNat (0,0)) (pj e d).2.2).1,b.2.set (a-1).toNat (ny (b.1.getD (a-1).toNat (0,0)) (pj e d).2.2).2)else b
def vm{ct}{b}{d}{bc}(a:c bc.1=2)(e:c bc.2=2):(hO ct b d bc).1.length=2/\(hO ct b d bc).2.length=2:=by unfold hO;split<;>simp[a,e]
abbrev Nb:an:=.cells 61 [.c (.int .i64 0),.c (.int .i64 0)]
abbrev Dc(a:Int×Int):an:=.cells 61 [.c (.int .i64 a.1),.c (.int .i64 a.2)]
abbrev aeV:p O:=[.c (.int .i64 0),cB,cB,cB,cB,cB,.c (.int .i64 0),.c (.int .i64 0),.c (.int .i64 0),.c (.V []),cB,cB]
abbrev fO:an:=.cells 35 aeV
def HY(b:Int)(e:dT)(d:dV)(c7:p (Int×Int))(a:p Int)(g:Int×Int)(_ i j:Bool):p an:=
 match i,j with
 |false,_=>lh c7 a++[.cells 35 (gK b e d 0),fO]
 |true,m=>lh c7 a++[.cells 35 (gK b e d 0),fO,Nb]
 |true,f=>lh c7 a++[.cells 35 (gK b e d 0),fO,Dc g]
abbrev aeL(j:dT)(g:dV)(a:Int)(i:Int×Int)(d:cz)(b:(Int×Int)×Int)(e:Nat):z:=
 [aG 2 10,cy 0 (.S 2 2 0 2),S a,S (a-1),cy 0 (.bx 2 2 (0+(a-1).toNat) 0),qd i,aG 2 1,aG 2 1,b9 j.1,aG 2 6,eB g,b9 d,a2.S d.2.2,pD b,pD b,qd b.1,S b.2,aG 4 0,.any,S b.2].getD e .any
set_option maxRecDepth 20000 in
def Ce(i)(e)(d)(b)(c7)(C)(w:q9 e.1)(N:1<=b/\b<=2)(Q:c c7=2)(K:c C=2):
  Y r 33 [.q (.agg (gK i e d 0)),S b] (lh c7 C) (.q (.agg (gK i e d 0))) (lh (hO b e.1 d (c7,C)).1 (hO b e.1 d (c7,C)).2):=by
 refine Y.bp bd func33 rfl rfl rfl λJ=>?_;have O:=(y' (r:=r) w d).fj.aM;have aE:=(y' (r:=r) w d).dw;unfold hO;generalize pj e.1 d=j at *;have M:(b-1).toNat<2:=y;have B:(0:Nat)+(b-1).toNat<2:=y;have E:c7.getD (b-1).toNat (0,0)=c7.getD (0+(b-1).toNat) a2.I:=qZ;have R:(c7.getD (0+(b-1).toNat) a2.I)=(c7.getD (0+(b-1).toNat) a2.I):=rfl;rw[E];have F:=WL (r:=r) (c7.getD (0+(b-1).toNat) a2.I) j.2.2 O;generalize ny (c7.getD (0+(b-1).toNat) a2.I) j.2.2=l at *;have k:a8 r [(61,eY [b9 e.1,eB d] (b9 j)),(60,eY [qd (c7.getD (0+(b-1).toNat) a2.I),a2.S j.2.2] (pD l))]:=.cons (fo aE) (.cons (fo F) .nil);have A:a7 .i64 (b-1):=nJ;have cv:0<=b-1/\b-1<((2:Nat):Int):=y;have D:2=2/\0+(b-1).toNat<2:=⟨rfl,B⟩;refine bf k [(1000001,f)] a v ?_;refine g.cx b5 (aeL e d b (c7.getD (0+(b-1).toNat) a2.I) j l) (lP (HY i e d c7 C l.1) 19 17 18) a a a a
  ⟨.aE,
  .aE,
  .aE,
  .dt bd k (cv:=by exact A),
  .dt bd k (cv:=by exact cv),
  .dt bd k (cv:=by exact D),
  .aE,
  .aE,
  .aE,
  .aE,
  .aE,
  .dt bd k (cv:=by exact a),
  .aE,
  .dt bd k (cv:=by exact a),
  .aE,
  .aE,
  .aE,
  cn.ez a a a a a (λx=>by cases x<;>exact ee (bg:=[]) bd k (ao:=h _) a v),
  cn.eA a a a a a (λx=>by cases x<;>exact ee (bg:=[]) bd k (ao:=h _) a v),
  cn.ey a a a a (λs I=>by cases s<;>cases I<;>exact aT.y),v⟩ ?_
 intro z t;show g r _ _ _ _ _ (HY i e d c7 C l.1 (z 19) (z 17) (z 18));rw[t 19 b',t 17 b',t 18 b'];have u:C.getD (0+(b-1).toNat) aB.I=C.getD (b-1).toNat 0:=qZ;by_cases p:C.getD (b-1).toNat 0=0
 .rw[bs p];refine bf k [(30,f)] a ?_ ?_
  .simp only[U,u,p,a7,fX,ba,a9];omega
  have n:=a2.cT c7 (0+(b-1).toNat) l.1 2 y;have o:=aB.cT C (0+(b-1).toNat) l.2 2 y;rw[cV]at n o;refine g.ba [.h 61 2 2 (a2.fn (c7.set (b-1).toNat l.1)),.h 3 1 2 (aB.fn (C.set (b-1).toNat l.2)),.cells 35 (gK i e d 0),.cells 35 (gK i e d 0),Dc l.1] a ?_ ?_
  .simp only[U.Y,U,cV,ba,a9];and_intros<;>first|exact bt.same|exact n|exact o|rfl
  exact Pb
 rw[bm p];refine bf k [(30,m)] a ?_ ?_
 .simp only[U,u,a7,eU,d8,ba,a9];and_intros<;>first|exact p|omega
 exact Pb
abbrev i1:=dT×dV×p (Int×Int)×p Int
def pw(d:Int)(b:i1)(a:Int)(e:p c'):i1×Bool:=
 if(hO a b.1.1 b.2.1 b.2.2).2.getD (a-1).toNat 0=0/\b.2.1.1=0 then
  (if(fU d b.1 a e).2=f then(((fU d b.1 a e).1,b.2.1,hO a (fU d b.1 a e).1.1 b.2.1 (hO a b.1.1 b.2.1 b.2.2)),f)else((b.1,b.2.1,hO a b.1.1 b.2.1 b.2.2),m))
 else((b.1,b.2.1,hO a b.1.1 b.2.1 b.2.2),m)
def cg(d:Int)(a:i1)(b:gf):i1×Bool:=
 if b.1=1 then(if(1<=b.2.1/\b.2.1<=2)/\dR b.2.2.1=f then pw d a b.2.1 b.2.2.1 else(a,m))
 else if b.1=2 then(if 1<=b.2.1/\b.2.1<=2 then((a.1,a.2.1,hO b.2.1 a.1.1 a.2.1 a.2.2),f)else(a,m))
 else if b.1=3 then((a.1,b.2.2.2.1,a.2.2),f)
 else if b.1=4 then(if c a.1.2.2=0 then(((kD d a.1.1 b.2.2.2.2).1,a.2),f)else(a,m))
 else if b.1=5 then((jq a.1,a.2),qq a.1)
 else(a,m)
structure fP(k:Nat)(b:i1):Prop where
 a:fi (6000+240*k) b.1
 bk:c b.2.2.1=2
 b6:c b.2.2.2=2
def DR{b}{ct}{o}(g:fi k b)(e:(fU i b ct o).2=f):fi (k+240) (fU i b ct o).1/\(fU i b ct o).1=rS i b ct o/\g_ i b=f/\(1<=ct/\ct<=2)/\dR o=f/\fJ i b.1 o=m:=by
 unfold fU at e⊢;split at e
 .rename_i d;rw[bs d];simp only[rL,cF,bA]at d;split at e
  .cases e
  rename_i s;have s:fJ i b.1 o=m:=by simpa using s
  rw[bm FA];exact⟨g.dc d.2 d.1.2 s,a,d.1.1,d.1.2,d.2,s⟩
 cases e
def fP.dc{b}{ct}{o}(u:fP k b):fP (k+1) (pw i b ct o).1:=by
 have b1:=vm (ct:=ct) (b:=b.1.1) (d:=b.2.1) (bc:=b.2.2) u.bk u.b6;unfold pw;split
 .split
  .rename_i j;have a:=vm (ct:=ct) (b:=(fU i b.1 ct o).1.1) (d:=b.2.1) (bc:=hO ct b.1.1 b.2.1 b.2.2) b1.1 b1.2;exact⟨(DR u.a j).1.mono y,a.1,a.2⟩
  exact E9
 exact E9
def fP.mono{k A}{b}(a:fP k b)(d:k<=A):fP A b:=⟨a.a.mono y,a.bk,a.b6⟩
def fP.do{b}{a}(u:fP k b):fP (k+1) (cg i b a).1:=by
 unfold cg;split
 .split
  .exact u.dc
  exact u.mono y
 split
 .split
  .have b1:=vm (ct:=a.2.1) (b:=b.1.1) (d:=b.2.1) (bc:=b.2.2) u.bk u.b6;exact E9
  exact u.mono y
 split
 .exact⟨u.a.mono y,u.bk,u.b6⟩
 split
 .split
  .exact⟨(fi.ik u.a.bm).mono y,u.bk,u.b6⟩
  exact u.mono y
 split
 .exact⟨(fi.step u.a).mono y,u.bk,u.b6⟩
 exact u.mono y
abbrev B0(b:Int)(a:i1):z:=.q (.agg (gK b a.1 a.2.1 0))
abbrev En(d:Int)(a:i1)(b:Bool):z:=.Q [.agg (gK d a.1 a.2.1 0),.aq (.c (.bool b))]
abbrev g5(a:i1):p an:=lh a.2.2.1 a.2.2.2
def WI(i)(b)(ct)(o)(k)(l:fP k b)(D:k<=1000)(w:1<=ct/\ct<=2):
  Y r 32 [B0 i b,S ct,bD.S o] (g5 b) (En i (pw i b ct o).1 (pw i b ct o).2) (g5 (pw i b ct o).1):=by
 refine Y.bp bd func32 rfl rfl rfl λC=>?_;have x:=Ce (r:=r) i b.1 b.2.1 ct b.2.2.1 b.2.2.2 l.a.bm.eB w l.bk l.b6;have A:=Xk (r:=r) i b.1 ct o (l.a.b8 y);have t:=vm (ct:=ct) (b:=b.1.1) (d:=b.2.1) (bc:=b.2.2) l.bk l.b6;have z:=DR (i:=i) (ct:=ct) (o:=o) l.a;unfold pw;rw[show((b.2.2.1,b.2.2.2):p (Int×Int)×p Int)=b.2.2 from a]at x;generalize hO ct b.1.1 b.2.1 b.2.2=e at *;have s:e.2.getD (0+(ct-1).toNat) aB.I=e.2.getD (ct-1).toNat 0:=qZ;refine cr a v (g.aF x [0,1] a ?_);by_cases j:e.2.getD (ct-1).toNat 0=0
 rotate_left
 .rw[bm (λl=>j l.1)];refine bP [(19,f),(25,f)] a ?_ ?_
  .simp only[U,s,a7,j8,d8,ba,a9];and_intros<;>first|exact j|omega
  exact oK
 by_cases n:b.2.1.1=0
 rotate_left
 .rw[bm (λl=>n l.2)];refine bP [(19,m),(25,f)] a ?_ ?_
  .simp only[U,s,j,a7,j8,iB,d8,ba,a9];and_intros<;>first|exact n|omega
  exact oK
 rw[bs ⟨j,n⟩];refine bP [(19,m),(25,m)] a ?_ ?_
 .simp only[U,s,j,n,a7,iB,ba,a9];omega
 refine g.aF A [] a ?_;cases jE:(fU i b.1 ct o).2 with
 |false=>
  rw[bm E];exact bP [(38,f)] a t0 oK
 |true=>
  rw[bs a];have B:=(z jE).1;generalize(fU i b.1 ct o).1=w2 at *;have u:=Ce (r:=r) i w2 b.2.1 ct e.1 e.2 B.bm.eB w t.1 t.2;rw[show((e.1,e.2):p (Int×Int)×p Int)=e from a]at u;exact bP [(38,m)] a t0 (g.aF u [0,1] a (cr a v oK))
def tD(k):∀(e b:p Int)j,(b++e).Pairwise (· < ·)->(if j=f then True else ∀d∈b,d<k)->(j=f->∀d∈e,k<=d/\(k∈b)) ->
  (if(e.foldl (gb k) (b,j)).2=f then(e.foldl (gb k) (b,j)).1 else(e.foldl (gb k) (b,j)).1++[k]).Pairwise (· < ·)
 |[],b,j,u,s,_=>by
  simp[hY]at u;cases j<;>simp at s⊢
  .exact o0.2 ⟨u,by simp,by exact bw⟩
  omega
 |i::e,b,j,u,s,y=>by
  rw[j7];obtain⟨x,o,t⟩:=o0.1 u;obtain⟨w,A⟩:=iA.1 o;have B:∀d∈b,d<i:=λd g=>t d g i i';have n:((b++[i])++e).Pairwise (· < ·):=ww;have v:(b++e).Pairwise (· < ·):=o0.2 ⟨x,A,λd g r l=>t d g r (m6 _ l)⟩;unfold gb;cases j with
  |true=>
   simp[dH];split
   .exact tD k e b f v E λ_ d g=>⟨by grind,(y a i i').2⟩
   exact tD k e (b++[i]) f n E λ_ d g=>⟨by grind,List.mem_append_left _ (y a i i').2⟩
  |false=>
   simp[j6,dh]at s⊢;split
   .split
    .rename_i z;subst z;exact tD i e (b++[i]) f n E λ_ d g=>⟨by grind,by simp⟩
    refine tD k e (b++[k,i]) f ?_ E λ_ d g=>⟨by grind,by simp⟩
    rw[mh];refine o0.2 ⟨x,iA.2 ⟨λr l=>?_,o⟩,λd g r l=>?_⟩
    .rcases fl.1 l with rfl|l
     .omega
     have:=w r l;omega
    rcases fl.1 l with rfl|l
    .exact s d g
    exact t d g r l
   exact tD k e (b++[i]) m n (by simp;grind) E
def Z0{d}{k}(u:d.Pairwise (· < ·)):(e4 d k).Pairwise (· < ·):=tD k d [] m ww E E
def CG:∀{d a:p Int},a.Pairwise (· < ·)->(d.foldl e4 a).Pairwise (· < ·)
 |[],a,b=>b
 |e::d,a,b=>CG (d:=d) (Z0 b)
def aar(d):(h5 d).Pairwise (· < ·):=by
 unfold h5;have:∀(d:p eE) b,b.Pairwise (· < ·)->(d.foldl (λa e=>(gF e.2).foldl e4 a) b).Pairwise (· < ·):=λd=>by
  induction d with
  |nil=>simp
  |cons e d g=>exactλb i=>g _ (CG i)
 simp_all
def XZ(d):c (d.flatMap fV)<=c (hf d):=by
 induction d with
 |nil=>simp
 |cons l d a=>
  have:c (fV l)<=c (d_ l.2):=QY;simp[hf,sm,dm]at a⊢;omega
def rE(b:p Int)(d:Int):Int:=match b.findIdx? (λe=>e==d)with
 |some a=>a
 |none=>-1
def UJ(d)(aa):Y r 124 [aB.S d,S aa] [] (S (rE d aa)) []:=by
 refine Y.K func124 rfl λl=>?_;have t:=l.S 0 a;refine aZ a v (g.aN 0 (λb=>b<=c d/\∀e,e<b->d.getD e 0≠aa) (λb:Nat=>[(0,aB.S d),(1,S aa),(7,S (c d)),(8,S b)]) (λ_=>[]) (λb=>c d-b) 0 a E a v a ⟨by omega,by omega⟩ ?_);rintro b ⟨o,p⟩;by_cases k:b<c d
 .have j:d.getD (b:Int).toNat aB.I=d.getD b 0:=rfl;by_cases s:d.getD b 0=aa
  .have:rE d aa=b:=by
    have:d.findIdx? (λi=>i==aa)=h b:=by rw[AD];exact⟨k,by grind,λe n=>by grind⟩
    simp[rE,this]
   rw[this];refine a6 [(9,f),(16,f)] a ?_ (g.aX (bT.zero a));simp only[U,j,bA,hd,ba,a9];and_intros<;>first|omega|omega
  refine a6 [(9,f),(16,m)] a ?_ (g.aB (b+1) a ?_ v ⟨k,λe n=>?_⟩ y)
  .simp only[U,j,a7,bA,eU,ba,a9];and_intros<;>first|grind|omega
  .simp
  grind
 have:rE d aa=-1:=by have:d.findIdx? (λi=>i==aa)=q:=wu;simp[rE,this]
 rw[this];exact Qe
abbrev Bo:bK:=ek (eX aB) c8 (λa b=>bi (a.contains b)) λ_ _=>[]
def Mq:bL r 83 Bo:=.bl λb d _=>by refine Y.K func83 rfl λi=>?_;have e:a8 r [(124,ek (eX aB) c8 (λb d=>S (rE b d)) λ_ _=>[])]:=.cons (.bl λb d _=>UJ b d) .nil;refine b_ e a No (g.aw a ?_);simp[U,aB.E,a9];unfold rE;grind
def Um(l)(b):Y r 82 [iJ l,ax (.O [.S m 1 (c b) (aB.fn b)])] [] (bi (!b.contains l.1)) []:=by refine Y.K func82 rfl λe=>?_;have d:a8 r [(83,Bo)]:=.cons Mq .nil;refine b_ d a No (g.aw a ?_);simp only[aB.E];simp
abbrev Gg(e:cz)(b:p eE)(d:O)(a:p Int)(i:Z)(g:p Int):p an:=[jT e,.x,.cells 30 l7,.x,.x,.cells 30 [cJ a1 e.1,cJ bj b,cJ a2 e.2.2,d,.r 6 1 (c a) (aB.fn a)],.r 3 1 (c a) (aB.fn a),jb i g]
def Tu(i)(b)(j)(n:dN b)(t:nU b):Y (ai.aT V) 42 [S i,b9 b,aB.S j] [] (jW (kD i b j).1 (kD i b j).2) []:=by
 refine Y.bE func42 rfl rfl rfl λz=>?_;have l:a8 (ai.aT V) [(64,xu)]:=.cons Ek .nil;have N:=n.a2;have T:=n.a7;unfold kD;cases r:hS i b with
 |false=>
  refine g.aU b5 da l [(17,f)] 200 a ?_ ?_
  .simp only[U,a1.E,a1.U,bj.E,bj.U,a2.E,a2.U,r,t,ba,a9,il]
  refine g.freeze 6 2 a a a ?_;refine g.cp da [] a ?_ a a a fI;simp
 |true=>
 rw[bs a];refine g.aU b5 da l [(17,m)] 200 a ?_ ?_
 .simp only[U,a1.E,a1.U,bj.E,bj.U,a2.E,a2.U,r,t,ba,a9,gj]
 refine g.aF (o8 b n.a2 n.bs n.a7 n.bz n.aM) [] a (g.aU b5 da l [(1000004,f)] 200 a v (g.freeze 5 1 a a a ?_));refine g.aU b5 da l [] 200 a v (g.a9 (Ir b.2.1 n.a7 82 [.S m 1 (c j) (aB.fn j)] (λk=>!j.contains k.1) λk _=>Um k j) [4] a bl ?_);rintro⟨F,C⟩;simp only[Bool.not_not]at C⊢;have B:c (b.2.1.filter λk=>j.contains k.1)<=c b.2.1:=kz _ _;have J:∀k∈b.2.1.filter (λk=>j.contains k.1),k∈b.2.1:=λk s=>(kB.1 s).1;have M:c (hf (b.2.1.filter λk=>j.contains k.1))<=c (hf b.2.1):=F2 b.2.1 λk=>j.contains k.1;generalize b.2.1.filter (λk=>j.contains k.1)=d at *;refine g.aU b5 da l [(1000005,f)] 200 a v (g.bw 4 a a a (by simp;exact B) (by simp;exact⟨v,B⟩) (g.bw 3 a a a E (by simp;exact v) (g.cn 5 4 3 1 (aB.fn []) a a ?_)));refine g.ba [jT b,.x,.cells 30 l7,.x,.x,.cells 30 [cJ a1 b.1,cJ bj d,cJ a2 b.2.2,cB,.r 6 1 0 (aB.fn [])],.r 3 1 0 (aB.fn [])] a ?_ ?_
 .simp only[U.Y,U,ba,a9];and_intros<;>first|exact bt.same|exactλe p=>C e p|rfl|simp
 refine g.aU b5 da l [] 200 a v (g.hX a a a λw=>?_);refine g.aU b5 da l [] 200 a v ?_;refine g.aN 8 (λe=>e<=c d) (λe:Nat=>[(4,aG 0 0),(6,aG 2 0),(8,aG 5 0),(9,sO w),(32,bj.S d),(33,S (c d)),(34,S e)])
  (λe=>Gg b d cB [] w ((d.take e).flatMap fV)) (λe=>c d-e) 0 a E a E a y ?_
 intro e p;by_cases o:e<c d
 .have x:d.getD e bj.I=d.getD e (0,[]):=rfl;have s:=t.dW _ (J _ (og (I:=(0,[])) o));have R:=F4 o;have K:=t.ev;have A:(d.take (e+1)).flatMap fV=(d.take e).flatMap fV++fV (d.getD e (0,[])):=by rw[ia o (0,[])];simp
  generalize d.getD e (0,[])=k at *;refine g.aU b5 da l [(35,f)] 200 a bX ?_;simp only[c1,x];refine g.aF (Ch k s.1 y) [] a (g.aU b5 da l [] 200 a v (g.aF (Ie w ((d.take e).flatMap fV) (fV k)) [7] a ?_));rw[<-A];refine g.aU b5 da l [] 200 a ?_ (g.aB (e+1) a E E o y);exact oJ
 obtain rfl:e=c d:=y;rw[c9];have W:=XZ d;have K:=t.ev;refine g.aU b5 da l [(35,m)] 200 a E (g.aD ?_);refine g.aU b5 da l [] 200 a v (g.aF (VH w (d.flatMap fV) (h5 d) y (aar d) λQ=>by rw[vp];simp[yx]) [7] a (g.aU b5 da l [] 200 a v ?_));refine g.aN 8 (λe=>e<=c b.1) (λe:Nat=>[(4,aG 0 0),(6,aG 2 0),(8,aG 5 0),(47,a1.S b.1),(48,S (c b.1)),(49,S e)])
  (λe=>Gg b d (cJ aB (h5 d)) ((b.1.take e).map (·.1)) w (d.flatMap fV)) (λe=>c b.1-e) 0 a E a E a y ?_
 intro e p;have O:c ((b.1.take e).map (·.1))=e:=bX;by_cases o:e<c b.1
 .have x:b.1.getD e a1.I=b.1.getD e (0,[]):=rfl;have A:=map_take (ae:=λu:ca=>u.1) o (0,[]);generalize(b.1.take e).map (λu:ca=>u.1)=D at *;generalize b.1.getD e (0,[])=u at *;have s:=aB.a0 D u.1;refine g.aU b5 da l [(50,f)] 200 a ?_ (g.aB (e+1) a E ?_ o y)
  .simp[-al,x,o,a7,show ec.bytes=8 from a];omega
  rw[A];simp only[U.Y,U,c1,x,dm,gU,ba,a9];and_intros<;>first|exact bt.same|exact s|rfl|omega
 obtain rfl:e=c b.1:=y;rw[c9];refine g.aU b5 da l [(50,m)] 200 a E (g.aD ?_);refine g.aU b5 da l [] 200 a v (g.freeze 8 5 a a a ?_);refine g.freeze 6 2 a a a ?_;refine g.cp da [] a ?_ a a a fI;simp[bj.E]
def Is(i)(b)(d)(k)(e:fP k b)(w:k<=1000):
  Y r 12 [B0 i b,lL d] (g5 b) (En i (cg i b d).1 (cg i b d).2) (g5 (cg i b d).1):=by
 refine Y.bp bd func12 rfl rfl rfl λz=>?_;have n:=e.a.b8 y;have x:a8 r [(24,jF),(31,sG),(34,GF)]:=.cons ks (.cons zf (.cons adm .nil));unfold cg;by_cases C:d.1=1
 .rw[bs C];by_cases s:1<=d.2.1/\d.2.1<=2
  rotate_left
  .rw[bm (λe=>s e.1)];refine bf x [(13,f),(16,m),(21,m)] a ?_ ?_
   .simp only[U,C,fX,ba,a9];grind
   exact oK
  cases j:dR d.2.2.1 with
  |false=>
   rw[bm E];exact bf x [(13,f),(16,f),(21,m)] a OX oK
  |true=>
   rw[bs ⟨s,rfl⟩];have p:=WI (r:=r) i b d.2.1 d.2.2.1 k e w s;exact bf x [(13,f),(16,f),(21,f)] a OX (g.aF p [0,1] a E3)
 rw[bm C];by_cases s:d.1=2
 .rw[bs s];by_cases j:1<=d.2.1/\d.2.1<=2
  rotate_left
  .rw[bm j];refine bf x [(13,m),(31,f),(34,m)] a ?_ ?_
   .simp only[U,s,fX,ba,a9];grind
   exact oK
  rw[bs j];have u:=Ce (r:=r) i b.1 b.2.1 d.2.1 b.2.2.1 b.2.2.2 e.a.bm.eB j e.bk e.b6;refine bf x [(13,m),(31,f),(34,f)] a ?_ ?_
  .simp only[U,s,j,m8,and_self,fX,ba,a9];decide
  exact g.aF u [0,1] a E3
 rw[bm s];by_cases j:d.1=3
 .rw[bs j];refine bf x [(13,m),(31,m),(40,f)] a ?_ ?_
  .simp only[U,j,fX,ba,a9];decide
  exact oK
 rw[bm j];by_cases o:d.1=4
 .rw[bs o];by_cases l:c b.1.2.2=0
  .rw[bs l];have t:(c b.1.2.2:Int)=0:=y;refine bf x [(13,m),(31,m),(40,m),(46,f),(51,f)] a ?_ ?_
   .simp only[U,o,t,n.bm,n.cb,a1.E,a1.U,bj.E,bj.U,a2.E,a2.U,aB.E,aB.U,fX,ba,a9];decide
   refine g.cr () [0,1] ?_ x6;exact zS
  rw[bm l];refine bf x [(13,m),(31,m),(40,m),(46,f),(51,m)] a ?_ ?_
  .simp only[U,o,fX,eU,d8,ba,a9];and_intros<;>first|decide|omega
  exact oK
 rw[bm o];by_cases l:d.1=5
 .rw[bs l];have p:=W7 (r:=r) b.1 n.bm n.cy n.cL;refine bf x [(13,m),(31,m),(40,m),(46,m),(67,f)] a ?_ ?_
  .simp only[U,l,fX,ba,a9];decide
  exact g.aF p [] a E3
 rw[bm l];refine bf x [(13,m),(31,m),(40,m),(46,m),(67,m)] a ?_ ?_
 .simp only[U,eU,d8,ba,a9];grind
 exact oK
abbrev vj(a:dV):p O:=[.c (.int .i64 a.1),.c (.int .i64 a.2.1),.c (.int .i64 a.2.2.1),.c (.V a.2.2.2)]
abbrev BX(c7:p (Int×Int))(a:p Int):p an:=[.h 61 2 (c c7) (a2.fn c7),.h 3 1 (c a) (aB.fn a)]
abbrev zv(a:fs)(d b:Nat):p O:=.c (.int .i64 a.1)::([cJ a1 a.2.1.1.1,cJ bj a.2.1.1.2.1,cJ a2 a.2.1.1.2.2,cJ aB a.2.1.2.1,.r d 1 (c a.2.1.2.2) (aB.fn a.2.1.2.2)]++vj a.2.2.1++[.R b (.S (c a.2.2.2.1) 2 0 (c a.2.2.2.1)),.R (b+1) (.S (c a.2.2.2.2) 1 0 (c a.2.2.2.2))])
abbrev mT(a:fs):an:=.cells 35 (nF a)
abbrev hM(a:dT):an:=.r 3 1 (c a.2.2) (aB.fn a.2.2)
def HU(a:fs)(d e g i:Bool):p an:=
 match d,e,g,i with
 |true,f,f,f=>[mT a,.cells 35 (.c (.int .i64 a.1)::([cJ a1 a.2.1.1.1,cJ bj a.2.1.1.2.1,cJ a2 a.2.1.1.2.2,cJ aB a.2.1.2.1,.r 2 1 (c a.2.1.2.2) (aB.fn a.2.1.2.2)]++vj a.2.2.1++[.R 3 (.S (0+c a.2.2.2.1) 2 0 (0+c a.2.2.2.1)),.R 4 (.S (0+c a.2.2.2.2) 1 0 (0+c a.2.2.2.2))])),hM a.2.1,
   .h 61 2 (0+c a.2.2.2.1) (ce 0 (λb=>([]:p (p N)).getD b []) (a2.fn a.2.2.2.1)),.h 3 1 (0+c a.2.2.2.2) (ce 0 (λb=>([]:p (p N)).getD b []) (aB.fn a.2.2.2.2))]
 |true,f,f,m=>[mT a,fO,hM a.2.1,.h 61 2 (0+c a.2.2.2.1) (ce 0 (λb=>([]:p (p N)).getD b []) (a2.fn a.2.2.2.1)),.h 3 1 (0+c a.2.2.2.2) (ce 0 (λb=>([]:p (p N)).getD b []) (aB.fn a.2.2.2.2))]
 |true,f,m,_=>[mT a,fO,hM a.2.1,.h 61 2 (0+c a.2.2.2.1) (ce 0 (λb=>([]:p (p N)).getD b []) (a2.fn a.2.2.2.1))]
 |true,m,_,_=>[mT a,fO,hM a.2.1]
 |false,_,_,_=>[mT a,fO]
abbrev Ks(b:Nat):z:=ax (.S f b 0 λa=>([]:p (p N)).getD a [])
abbrev Ea(a:dT)(b:Nat):p O:=[cJ a1 a.1.1,cJ bj a.1.2.1,cJ a2 a.1.2.2,cJ aB a.2.1,.r b 1 (c a.2.2) (aB.fn a.2.2)]
abbrev aeF(a:fs)(b:Nat):z:=
 [aG 0 0,S a.1,aG 0 1,gm a.2.1,.q (.agg (Ea a.2.1 2)),aG 0 6,eB a.2.2.1,Ks 2,aG 0 10,a2.S a.2.2.2.1,cy 3 (.S (0+c a.2.2.2.1) 2 0 (0+c a.2.2.2.1)),Ks 1,aG 0 11,aB.S a.2.2.2.2,cy 4 (.S (0+c a.2.2.2.2) 1 0 (0+c a.2.2.2.2)),
  .q (.agg (.c (.int .i64 a.1)::(Ea a.2.1 2++vj a.2.2.1++[.R 3 (.S (0+c a.2.2.2.1) 2 0 (0+c a.2.2.2.1)),.R 4 (.S (0+c a.2.2.2.2) 1 0 (0+c a.2.2.2.2))]))),.any].getD b .any
set_option maxRecDepth 20000 in
def uY(b)(s:pU b.2.1)(k:c b.2.2.2.1<=4000000)(I:c b.2.2.2.2<=4000000):Y r 13 [fG b] [] (.q (.agg (zv b 0 1))) ([hM b.2.1]++BX b.2.2.2.1 b.2.2.2.2):=by
 refine Y.bp bd func13 rfl rfl rfl λl=>?_;have x:a8 r [(36,k4 [gm b.2.1] [] (.q (.agg (Ea b.2.1 0))) [hM b.2.1])]:=.cons (l5 (Im b.2.1 s.bm s.cy s.cL)) .nil;have i:(0+c b.2.2.2.1)*ym.bytes<=140737488355328:=by rw[show ym.bytes=16 from a];omega
 have e:(0+c b.2.2.2.2)*ec.bytes<=140737488355328:=by rw[show ec.bytes=8 from a];omega
 refine bf x [(1000001,f)] a v ?_;refine g.cx b5 (aeF b) (mv (HU b) 4 10 14 16) a a a a
  ⟨.aY,
  .aY,
  .aY,
  .aY,
  cn.ay a a a a a a (ee (bg:=[]) bd x (ao:=h _) a ⟨rfl,rfl⟩),
  .aY,
  .aY,
  .aY,
  .aY,
  .aY,
  cn.eP a a a a a a (ee (bg:=[(3000013,f)]) bd x (ao:=h _) a i),
  .aY,
  .aY,
  .aY,
  cn.eR a a a a a a (ee (bg:=[(3000017,f)]) bd x (ao:=h _) a e),
  .aY,
  cn.eS a a a a a a (ee (bg:=[]) bd x (ao:=h _) a v),v⟩ ?_
 intro z j;show g r _ _ _ _ _ (HU b (z 4) (z 10) (z 14) (z 16));rw[j 4 b',j 10 b',j 14 b',j 16 b'];refine qI x [] 1 a v (g.ba [mT b,.cells 35 (zv b 2 3),hM b.2.1,.h 61 2 (c b.2.2.2.1) (a2.fn b.2.2.2.1),.h 3 1 (c b.2.2.2.2) (aB.fn b.2.2.2.2)] a ?_ ?_)
 .simp[o2]
 refine g.bd () [2,3,4] ?_ (λn d=>absurd d E);simp
def TV(b)(j:pU b.2.1)(d:c b.2.2.2.1<=4000000)(i:c b.2.2.2.2<=4000000):Y r 13 [fG b] [] (fG b) []:=by have e:=Y.bO (aL:=[hM b.2.1,.h 61 2 (c b.2.2.2.1) (a2.fn b.2.2.2.1)]) (uY (r:=r) b j d i) a E a E;have g:=Y.bO (aL:=[hM b.2.1]) e a E a E;refine g.b1 a ?_ a;simp[hv]
end
section
variable {r:ai V}
def IM(A)(d)(e:c d<=4000000):Y r 76 [qd A,a2.S d] [] (pD (ny A d)) []:=by refine Y.bp bd func76 rfl rfl rfl λj=>?_;have i:a8 r [(115,eY [qd A,a2.S d] (pD (ny A d)))]:=.cons (fo (WK A d e)) .nil;refine b_ i a (by simp[a2.E];rfl) ?_;refine g.cr () [] ?_ (λk b=>absurd b E);simp
abbrev rx(a:gf):an:=.cells 38 (B5 a)
abbrev pH(a:Int)(d:dT)(b:dV):an:=.cells 35 (gK a d b 6)
abbrev ab5(a:Int×Int):z:=ax (.val (.func (.func 76) #[.agg [.int .i64 a.1,.int .i64 a.2].toArray] #[]))
abbrev pr(d b:av×Z)(a:fs)(e:gf):p an:=kW d b++[.cells 35 (nF a),rx e,fO]
abbrev M9(i:Nat)(j:dT)(e:dV)(g:Int×Int)(b:cz)(a:(Int×Int)×Int)(d:Nat):z:=
 [ab5 g,aG 8 0,aG 8 0,aG 8 1,aG 8 1,b9 j.1,aG 8 0,aG 8 0,aG 8 6,eB e,b9 b,a2.S b.2.2,pD a,pD a,qd a.1,S a.2,aG i 0,.any,S a.2].getD d .any
def xH(a:p an)(b:Int×Int)(_ d e:Bool):p an:=
 match d,e with
 |false,_=>a
 |true,m=>a++[Nb]
 |true,f=>a++[Dc b]
abbrev qj(b:p Int):={a:Nat->p N // bt 2 a (aB.fn b)}
abbrev n2(e d:av×Z)(b:fs)(g:gf)(j:Int)(l:dT)(k:dV)(c7:p (Int×Int))(a:Nat->p N)(i:gf):p an:=pr e d b g++[.h 61 2 2 (a2.fn c7),.h 3 1 2 a,pH j l k]++[rx i]
set_option maxRecDepth 20000 in
def Il(t k)(o)(e)(A)(i)(n)(d)(b)(c7)(l)(D:q9 n.1)(M:1<=b/\b<=2)(R:c c7=2)(O:c l=2):
  bk (ι:=qj (hO b n.1 d (c7,l)).2) r 40 [aG 8 0,S b] (n2 t k o e i n d c7 (aB.fn l) A) (λ_=>.Q []) (λF=>n2 t k o e i n d (hO b n.1 d (c7,l)).1 F.1 A++[.x]):=by
 refine bk.bR func40 rfl rfl rfl (g.aW ?_);have J:=(y' (r:=r) D d).fj.aM;have aE:=JL (r:=r) D d;unfold hO;generalize pj n.1 d=p at *;have Q:(b-1).toNat<2:=y;have T:(0:Nat)+(b-1).toNat<2:=y;have K:c7.getD (b-1).toNat (0,0)=c7.getD (0+(b-1).toNat) a2.I:=qZ;rw[K];have E:=IM (r:=r) (c7.getD (0+(b-1).toNat) a2.I) p.2.2 J;generalize ny (c7.getD (0+(b-1).toNat) a2.I) p.2.2=u at *;have j:a8 r [(77,eY [b9 n.1,eB d] (b9 p))]:=.cons (fo aE) .nil;have C:l.getD (0+(b-1).toNat) aB.I=l.getD (b-1).toNat 0:=qZ;by_cases w:l.getD (b-1).toNat 0=0
 rotate_left
 .rw[bm w];refine g.fe 0 1 ?_;refine g.cK 10 a bl ?_;refine bf j [(15,f)] a ?_ ?_
  .simp only[U,C,a7,j8,d8,ba,a9];and_intros<;>first|exact w|omega
  exact Ox
 rw[bs w];refine bf j [(15,m)] a ?_ ?_
 .simp only[U,C,w,a7,iB,ba,a9];omega
 refine g.cF _ _ a a (ev.hr a a a) λN=>?_;refine bf j [(1000002,f)] a v ?_;refine g.cx b5 (M9 10 n d (c7.getD (0+(b-1).toNat) a2.I) p u) (lP (xH (n2 t k o e i n d c7 (aB.fn l) A) u.1) 18 16 17) a a a a
  ⟨.aE,
  .aE,
  .aE,
  .aE,
  .aE,
  .aE,
  .aE,
  .aE,
  .aE,
  .aE,
  .dt bd j (cv:=by exact a),
  .aE,
  cn.eJ a a a (λx s I=>aT.gU (λ_ _ _ _=>iV a) a a N.2 a E a a a),
  .aE,
  .aE,
  .aE,
  cn.ez a a a a a (λx=>by cases x<;>exact ee (bg:=[]) bd j (ao:=h _) a v),
  cn.eA a a a a a (λx=>by cases x<;>exact ee (bg:=[]) bd j (ao:=h _) a v),
  cn.ey a a a a (λs I=>by cases s<;>cases I<;>exact aT.y),v⟩ ?_
 intro z B;show g r _ _ _ _ _ (xH (n2 t k o e i n d c7 (aB.fn l) A) u.1 (z 18) (z 16) (z 17));rw[B 18 b',B 16 b',B 17 b'];refine bf j [(1000004,f)] a tQ (g.cK 10 a bl ?_);have dK:=a2.cT c7 (0+(b-1).toNat) u.1 2 y;have eF:=aB.cT l (0+(b-1).toNat) u.2 2 y;rw[cV]at dK eF;refine g.ba (n2 t k o e i n d (c7.set (b-1).toNat u.1) (aB.fn l) A++[.x]) a O7 ?_;exact OM
abbrev uH(i g:av×Z)(b:fs)(d:gf)(k:Int)(n:dT)(l:dV)(c7:p (Int×Int))(a:Nat->p N)(j:gf)(e:dT):p an:=pr i g b d++[.h 61 2 2 (a2.fn c7),.h 3 1 2 a,pH k n l]++[rx j,.x,gd e]
set_option maxRecDepth 20000 in
def TN(t k)(o)(e)(A)(w)(i)(n)(d)(b)(c7)(l)(E:q9 n.1)(Q:1<=b/\b<=2)(T:c c7=2)(M:c l=2):
  bk (ι:=qj (hO b n.1 d (c7,l)).2) r 40 [aG 8 0,S b] (uH t k o e i n d c7 (aB.fn l) A w) (λ_=>.Q []) (λJ=>uH t k o e i n d (hO b n.1 d (c7,l)).1 J.1 A w++[.x]):=by
 refine bk.bR func40 rfl rfl rfl (g.aW ?_);have K:=(y' (r:=r) E d).fj.aM;have aE:=JL (r:=r) E d;unfold hO;generalize pj n.1 d=p at *;have R:(b-1).toNat<2:=y;have V:(0:Nat)+(b-1).toNat<2:=y;have O:c7.getD (b-1).toNat (0,0)=c7.getD (0+(b-1).toNat) a2.I:=qZ;rw[O];have N:=IM (r:=r) (c7.getD (0+(b-1).toNat) a2.I) p.2.2 K;generalize ny (c7.getD (0+(b-1).toNat) a2.I) p.2.2=u at *;have j:a8 r [(77,eY [b9 n.1,eB d] (b9 p))]:=.cons (fo aE) .nil;have D:l.getD (0+(b-1).toNat) aB.I=l.getD (b-1).toNat 0:=qZ;by_cases B:l.getD (b-1).toNat 0=0
 rotate_left
 .rw[bm B];refine g.fe 0 1 ?_;refine g.cK 12 a bl ?_;refine bf j [(15,f)] a ?_ ?_
  .simp only[U,D,a7,j8,d8,ba,a9];and_intros<;>first|exact B|omega
  exact Ox
 rw[bs B];refine bf j [(15,m)] a ?_ ?_
 .simp only[U,D,B,a7,iB,ba,a9];omega
 refine g.cF _ _ a a (ev.hr a a a) λF=>?_;refine bf j [(1000002,f)] a v ?_;refine g.cx b5 (M9 12 n d (c7.getD (0+(b-1).toNat) a2.I) p u) (lP (xH (uH t k o e i n d c7 (aB.fn l) A w) u.1) 18 16 17) a a a a
  ⟨.aE,
  .aE,
  .aE,
  .aE,
  .aE,
  .aE,
  .aE,
  .aE,
  .aE,
  .aE,
  .dt bd j (cv:=by exact a),
  .aE,
  cn.eJ a a a (λx s I=>aT.gU (λ_ _ _ _=>iV a) a a F.2 a N a a a),
  .aE,
  .aE,
  .aE,
  cn.ez a a a a a (λx=>by cases x<;>exact ee (bg:=[]) bd j (ao:=h _) a v),
  cn.eA a a a a a (λx=>by cases x<;>exact ee (bg:=[]) bd j (ao:=h _) a v),
  cn.ey a a a a (λs I=>by cases s<;>cases I<;>exact aT.y),v⟩ ?_
 intro z C;show g r _ _ _ _ _ (xH (uH t k o e i n d c7 (aB.fn l) A w) u.1 (z 18) (z 16) (z 17));rw[C 18 b',C 16 b',C 17 b'];refine bf j [(1000004,f)] a tQ (g.cK 12 a bl ?_);have dK:=a2.cT c7 (0+(b-1).toNat) u.1 2 y;have eF:=aB.cT l (0+(b-1).toNat) u.2 2 y;rw[cV]at dK eF;refine g.ba (uH t k o e i n d (c7.set (b-1).toNat u.1) (aB.fn l) A w++[.x]) a O7 ?_;exact OM
end
section
variable {r:ai V}
def Vp(R)(b)(C:c R.2<=4000000):Y r 128 [fz R,aB.S b] [] (fz (hy R b)) []:=by
 refine Y.bp bd func128 rfl rfl rfl λo=>?_;have j:a8 r [(83,Bo)]:=.cons Mq .nil;refine bf j [(1000002,f)] a v (g.cn 2 1 131 2 (bG.fn []) a a ?_);refine b_ j a v ?_;refine g.aN 4 (λe=>e<=c R.2) (λe:Nat=>[(1,aB.S b),(4,aG 1 0),(5,aG 2 0),(12,bG.S R.2),(13,S (c R.2)),(14,S e)])
  (λe=>J0 R ((R.2.take e).filter λd=>b.contains d.1)) (λe=>c R.2-e) 0 a E a E a y ?_
 intro e k;have n:=Cy R.2 (λd=>b.contains d.1) k;by_cases u:e<c R.2
 .have I:R.2.getD e bG.I=d9 R e:=rfl;have s:(R.2.take (e+1)).filter (λd=>b.contains d.1)=if b.contains (d9 R e).1=f then(R.2.take e).filter (λd=>b.contains d.1)++[d9 R e]else(R.2.take e).filter (λd=>b.contains d.1):=Cz u (0,[]);generalize(R.2.take e).filter (λd=>b.contains d.1)=l at *;generalize d9 R e=d at *;cases ae:b.contains d.1 with
  |true=>
   rw[bs ae]at s;have C:=bG.a0 l d;refine bf j [(15,f),(21,f)] a Pg (g.aB (e+1) a E ?_ u y);exact NX
  |false=>
   rw[bm dA]at s;refine bf j [(15,f),(21,m)] a Pn (g.aB (e+1) a E ?_ u y);simp_all
 exact O5
abbrev Hr(a:dT)(b d:Bool):p an:=
 match b,d with
 |false,_=>[gd a,.cells 30 l7]
 |true,m=>[gd a,.cells 30 l7,.h 91 2 (c a.1.1) (a1.fn a.1.1),.h 106 2 (c a.1.2.1) (bj.fn a.1.2.1)]
 |true,f=>[gd a,.cells 30 [.R 2 (.S (c a.1.1) 2 0 (c a.1.1)),.R 3 (.S (c a.1.2.1) 2 0 (c a.1.2.1)),cJ a2 a.1.2.2,cJ aB (aB.af (c a.2.1) (aB.fn a.2.1)),cJ aB (aB.af (c a.2.2) (aB.fn a.2.2))],.h 91 2 (c a.1.1) (a1.fn a.1.1),.h 106 2 (c a.1.2.1) (bj.fn a.1.2.1)]
abbrev aeE(a:dT)(b:Nat):z:=
 [aG 0 0,b9 a.1,.q (.agg [.R 2 (.S (c a.1.1) 2 0 (c a.1.1)),.R 3 (.S (c a.1.2.1) 2 0 (c a.1.2.1)),cJ a2 a.1.2.2]),aG 0 3,aB.S a.2.1,aB.S (aB.af (c a.2.1) (aB.fn a.2.1)),aG 0 4,aB.S a.2.2,aB.S (aB.af (c a.2.2) (aB.fn a.2.2)),
  .q (.agg [.R 2 (.S (c a.1.1) 2 0 (c a.1.1)),.R 3 (.S (c a.1.2.1) 2 0 (c a.1.2.1)),cJ a2 a.1.2.2,cJ aB (aB.af (c a.2.1) (aB.fn a.2.1)),cJ aB (aB.af (c a.2.2) (aB.fn a.2.2))]),.any].getD b .any
def IU(b)(j:dN b.1)(i:c b.2.1<=4000000)(n:c b.2.2<=4000000):Y r 44 [gm b] [] (.q (.agg [.R 0 (.S (c b.1.1) 2 0 (c b.1.1)),cJ bj b.1.2.1,cJ a2 b.1.2.2,cJ aB b.2.1,cJ aB b.2.2])) [.h 91 2 (c b.1.1) (a1.fn b.1.1)]:=by
 refine Y.bp bd func44 rfl rfl rfl λp=>?_
 have x:a8 r [(80,k4 [b9 b.1] [] (.q (.agg [.R 0 (.S (c b.1.1) 2 0 (c b.1.1)),.R 1 (.S (c b.1.2.1) 2 0 (c b.1.2.1)),.c (.S m 2 (c b.1.2.2) (a2.fn b.1.2.2))])) [.h 91 2 (c b.1.1) (a1.fn b.1.1),.h 106 2 (c b.1.2.1) (bj.fn b.1.2.1)]),
   (46,df (eX aB) (λd=>aB.S d) λd=>[c d<=4000000])]:=.cons (l5 (o8 b.1 j.a2 j.bs j.a7 j.bz j.aM)) (.cons (.bb λd l=>B9 d l) .nil)
 refine bf x [(1000001,f)] a v ?_;refine g.cx b5 (aeE b) (o_ (Hr b) 2 10) a a a a
  ⟨.bI,.bI,cn.gA a a (ee (bg:=[]) bd x (ao:=h _) a E),.bI,.bI,.ds bd x (cv:=by exact⟨aB.U _,by rw[aB.E];exact i⟩),.bI,.bI,.ds bd x (cv:=by exact⟨aB.U _,by rw[aB.E];exact n⟩),.bI,
   cn.gB a a (ee (bg:=[]) bd x (ao:=h _) a v),v⟩ ?_
 intro z e;show g r _ _ _ _ _ (Hr b (z 2) (z 10));rw[e 2 b',e 10 b'];refine qI x [] 1 a v (g.bw 3 a a a E E (g.ba [gd b,.cells 30 [.R 2 (.S (c b.1.1) 2 0 (c b.1.1)),cJ bj b.1.2.1,cJ a2 b.1.2.2,cJ aB b.2.1,cJ aB b.2.2],.h 91 2 (c b.1.1) (a1.fn b.1.1),.x] a ?_ ?_))
 .simp[aB.E,hv]
 refine g.bd () [2] ?_ (λo k=>absurd k E);simp
abbrev p7(a:p ca):an:=.h 91 2 (c a) (a1.fn a)
abbrev xF(b a:Nat):z:=cy 0 (.S b 2 0 a)
def UO(d)(A)(D:A<=c d)(J:c d<=4000000)(n)(ah)(j:ca->Bool)(z:∀s,s∈d.take A->Y r n [fz s,ax (.O ah)] [] (bi (j s)) []):
  Y r 109 [xF (c d) A,ax (.fn (.func n) [] [.O ah])] [p7 d] (S (gE j (d.take A))) [p7 d]:=by
 refine Y.K func109 rfl λF=>?_;refine aZ a v ?_;have C:c (d.take A)=A:=bX;have l:∀e,e<A->(d.take A).getD e (0,[])=d.getD e (0,[]):=λe p=>by simp[ik,p]
 refine g.aN 1 (λb=>b<=A/\∀e,e<b->j ((d.take A).getD e (0,[]))=m) (λb:Nat=>[(0,xF (c d) A),(1,ax (.fn (.func n) [] [.O ah])),(7,S A),(8,S b)]) (λ_=>[p7 d]) (λb=>A-b) 0 a E a E a ⟨by omega,by omega⟩ ?_;rintro b ⟨w,k⟩;by_cases i:b<A
 .have B:d.getD b (0,[])∈d.take A:=by rw[<-l b i];grind
  have x:d.getD ((0+(b:Int).toNat:Nat)) a1.I=d.getD b (0,[]):=nK;refine a6 [(9,f)] a bw ?_;rw[x];refine g.aF (z _ B) [] a ?_;cases t:j (d.getD b (0,[]))with
  |true=>
   refine a6 [(16,f)] a E (g.aX (bT.mk [0] a ?_ a a a h3));simp[s4 (o:=d.take A) (I:=(0,[])) y (by rw[l b i];exact t) k]
  |false=>
   refine a6 [(16,m)] a bJ (g.aB (b+1) a E E ⟨i,λe p=>?_⟩ y);by_cases u:e=b
   .rw[u,l b i];exact t
   exact k e y
 refine a6 [(9,m)] a bX (g.aD ?_);refine aZ a v (g.aS [0] a ?_ h3);simp[s5 (o:=d.take A) (I:=(0,[])) (λe p=>k e y)]
def n9(a:p ca)(b d:Nat):p ca:=(a.take b).eraseIdx d++(0,[])::a.drop b
def SO{d}(b:A<=c d)(a:e<A):c (n9 d A e)=c d:=by unfold n9;rw[dm,FS bX];simp;omega
def T7(d)(A e)(Q:A<=c d)(z:e<A)(O:c d<=4000000):
  Y r 129 [xF (c d) A,S e,S ((e:Int)+1)] [p7 d] (xF (c d) (A-1)) [.h 91 2 (c d) (a1.fn (n9 d A e))]:=by
 refine Y.K func129 rfl λR=>?_;refine bP [(16,m),(1000006,f)] a EH ?_;have C:bS A (h (e:Int))-bS 0 q+(bS A q-bS 0 (h ((e:Int)+1)))=A-1:=EH;rw[C];refine g.region ?_;refine gI [] 4 a v (g.aP (a0.hY bd a a a a a a a a a y y y) a a ?_);refine g.aP (a0.eT bd a a a a a a y) a a ?_;refine bP [(1000007,f)] a v (g.gO 0 (a1.fn (n9 d A e)) a (λ_ _=>rfl) (λN idx p u t M=>?_) ?_)
 .have J:bS A (h (e:Int))-bS 0 q=e:=wx;have I:bS 0 (h ((e:Int)+1))=e+1:=bJ;have D:bS A q=A:=rfl;simp only[c1];rw[J,I,D];have B:(n9 d A e).getD idx (0,[])=if idx<e then d.getD idx (0,[])else if idx<A-1 then d.getD (idx+1) (0,[])else if idx<A then(0,[])else d.getD idx (0,[]):=by
   unfold n9;have x:c ((d.take A).eraseIdx e)=A-1:=Ni;simp only[al];by_cases o:idx<A-1
   .rw[ky y,List.getElem?_eraseIdx];by_cases i:idx<e
    .rw[bs i,bs i,ik,bs y]
    rw[bm i,bm i,bs o,ik,bs y]
   rw[hl y,x];by_cases F:idx=A-1
   .subst F;rw[bm y,bm y,bs y];simp
   obtain⟨k,rfl⟩:∃k,idx=A+k:=⟨idx-A,by omega⟩
   rw[bm y,bm y,bm y,show A+k-(A-1)=k+1 by omega];simp
  have b:(a1.a8 ((n9 d A e).getD idx (0,[])))[u]?=h t:=M;rw[B]at b;by_cases o:idx=A-1
  .subst o;rw[bm y,bm y,bs y]at b;have E:nH (0+(A-1)) (0+(A-1)+(A-(A-1))) np.zero (qC e (0+(e+1)) (A-(e+1)) (a1.fn d)) (A-1)=np.zero:=bs y;rw[E]
   match u,b with
   |0,b=>exact⟨_,rfl,λK j=>by cases b;exact j⟩
   |1,b=>exact⟨_,rfl,λK j=>by cases b;exact JX (l:=.S f 0 0 λ_=>[]) rfl ⟨rfl,rfl⟩ j⟩
  refine⟨t,?_,λ_ j=>j⟩;rw[<-b];congr 1;unfold nH qC;rw[bm y];have n:∀w,a1.fn d w=a1.a8 (d.getD w (0,[])):=λ_=>rfl;by_cases i:idx<e
  .rw[bm y,bs i,n]
  rw[bm i];by_cases s:idx<A-1
  .rw[bs y,bs s,n,show 0+(e+1)+(idx-e)=idx+1 by omega]
  rw[bm y,bm s,bm y,n]
 exact Pm
end
def kq(a:dT):Nat->dT
 |0=>a
 |b+1=>jq (kq a b)
def L6{Q}:∀{w:Nat},w<=c Q.2.2->(kq Q w).1.2=Q.1.2/\(kq Q w).2.1=Q.2.1/\(kq Q w).2.2=Q.2.2.drop w/\(kq Q w).1.1=(Q.2.2.take w).foldl (λd b=>fd b Q.2.1 d) Q.1.1
 |0,_=>⟨rfl,rfl,rfl,rfl⟩
 |w+1,n=>by
  obtain⟨k,j,l,e⟩:=L6 (Q:=Q) (w:=w) y;have i:Q.2.2.drop w=Q.2.2.getD w 0::Q.2.2.drop (w+1):=by rw[RB y];simp[bI (show w<c Q.2.2 by omega)]
  have g:kq Q (w+1)=((fd (Q.2.2.getD w 0) Q.2.1 (kq Q w).1.1,(kq Q w).1.2),(kq Q w).2.1,Q.2.2.drop (w+1)):=by rw[show kq Q (w+1)=jq (kq Q w)from a];unfold jq;simp_all
  rw[g,ia y 0,ur,<-e];simp_all
def oS.hV{i}{d}(b:oS i d):∀a,oS i (kq d a)
 |0=>b
 |a+1=>(oS.hV b a).step
def Lc{cp}{bR}:∀{ab:p ca}{e:Nat},(ab.Pairwise λa b=>a.1<b.1)->(∀a∈ab,a.2≠[])->e<c ab->(ab.getD e (0,[])).1=bR ->
  gE (λa:ca=>a.1==bR) ab=e/\fd bR cp ab=if(hy (ab.getD e (0,[])) cp).2.length=0 then ab.eraseIdx e else ab.set e (hy (ab.getD e (0,[])) cp)
 |a::ab,0,j,i,_,d=>by
  obtain⟨l,r⟩:=iA.1 j;simp only[List.getD_cons_zero]at d⊢;have k:ab.map (iP bR cp)=ab:=by rw[wK (g:=id) λb g=>by have:=l b g;exact bm y,List.map_id]
  refine⟨by simp[gE,List.findIdx?_cons,d],?_⟩;unfold fd;rw[mg,k,show iP bR cp a=hy a cp from bs d,sr,sg.2 λb g=>by simpa using i b (m6 _ g)];split<;>split<;>simp_all
 |a::ab,e+1,j,i,n,d=>by
  obtain⟨l,r⟩:=iA.1 j;simp only[List.getD_cons_succ,fj]at d n⊢;obtain⟨k1,u⟩:=Lc (cp:=cp) (e:=e) r (λb g=>i b (m6 _ g)) y d;have t:ab.getD e (0,[])∈ab:=M;have s:a.1≠bR:=by have:=l _ t;omega
  have w:=i a i';refine⟨?_,?_⟩
  .unfold gE at k1⊢;rw[List.findIdx?_cons];have:(a.1==bR)=m:=bw;rw[this];cases o:ab.findIdx? λa=>a.1==bR with
   |none=>rw[o]at k1;exact bJ
   |some v=>rw[o]at k1;exact bw
  have k:fd bR cp (a::ab)=a::fd bR cp ab:=by unfold fd;rw[mg,show iP bR cp a=a from bm s,sr,bs bw]
  rw[k,u];split<;>simp
end R1
end Go.AM
