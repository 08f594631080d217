/- Part 5. No condition. -/
import Derived.Test.YtnamahahdbfodaaGreatDoorA4
set_option linter.all false
set_option maxHeartbeats 8000000
open Go.Proofs
open Go.Proofs.Tryz
open List renaming length → c, range → aC, getD_eq_getElem?_getD → al
open Go renaming Value → Z, TypeId → av, World → au, Frame → aK, execOp → ac, Operand → aB, Program → aI, Goroutine → ak, Oper → ap
open Option renaming some → h, none → n
open Bool renaming true → f, false → l
open Nat renaming beq → af, ble → ay
open Go.Op renaming bytesLess → aW, equalIn → aQ
open Go.Proofs.Tryz renaming prog → V
namespace Go.AM
variable {k A:Nat}{i:Int}{d j e w:Nat}{W:av}{H:Z->(Nat->Option Obj)->Prop}{L:Array Bool}{bB:Mem}{D:Nat}{P:aI}{bq:ak->a5->Prop}{s:Code}{C:ak}{t:ap}{b:a5}{q:av}{aa:Z}{o X:aB}{α:Type}{η:aB->z}{ι:Type}{p:m an}{F:bH}{all:m ap}{dp:Array av}{cap:m N}{cR:m z}{k8:Nat->Option Obj}{ah:m aK}{bg:m (Nat×Bool)}{T:Nat->m N}{cP:aB}{gs:Array ak}{aP:m Nat}{cf:m Prop}{off:Nat}{op:BinOp}{aD:Array ap}{ab:m Prop}{bs:m ap}{az:a5}{ty:av}{val:Nat->Nat->Z}{B:m Z}{bi:au}{ag:Array aB}{ao dd:m an}{res:ι->z}{aM:ι->m an}
variable {CT:m (Nat×bL)}{ar:m ij}{be:fs}{ad:m (Nat×bv)}{a4:bv}
namespace R1
abbrev Al(d:m c'):Prop:=d.Pairwise λa b=>aW a.1 b.1=f
def aeo{q}(g:dV q=f):Al q:=by simp only[dV,cE]at g;have j:=f'.1 g.1;rw[Al,o7];intro e m b d a;rw[pf b,pf d];refine LI (q:=q) (e:=m) (λo k i=>?_) e a;have:=j o y;simp[iV,cE,jB,hg]at this;grind
def EB{q}:dV q=f↔(∀d∈q,fK d.1=f/\fD d.2=f)/\Al q/\q.Pairwise (λk m=>k9 k.1 m.1=l)/\c q<=6:=by
 constructor
 .intro b;have u:=aeo b;simp only[dV,cE,bA]at b;have i:=f'.1 b.1;refine⟨λd p=>?_,u,?_,b.2⟩
  .obtain⟨e,a,rfl⟩:=hG p;have:=i e a;exact O'
  rw[o7];intro e s a g j;have:=i s g;exact O'
 rintro⟨t,v,w,r⟩;simp only[dV,cE,bA];refine⟨f'.2 λe a=>?_,r⟩;have o:=t _ (wY a);rw[pf a]at o;simp only[iV,cE,jB,hg];grind[List.pairwise_iff_getElem,pf]
end R1
def bk.le{t:aj P}{u}{args}{oG:ι->z}(v:bk t u args p res aM){e:ι->m Prop}(x:∀a,km (res a) (oG a)=h (e a))(y:∀a,U (e a)):bk t u args p oG aM:=
 ⟨v.1,λA B q k w g j=>v.2 A B q k w g λa i C r o b d s=>j a i C r o (pr (x a) (y a) b) d s⟩
def bk.aq{q:aj P}{r}{args}{res}{aM}(s:bk (ι:=ι) q r args p (λ_=>res) (λ_=>aM)):Y q r args p res aM:=
 ⟨s.1,λu B k i t d g=>s.2 u B k i t d λ_ e v m j a b o=>g e v m j a b o⟩
namespace R1
variable {r:aj V}
abbrev ul(e:cZ α)(d:m α):Type:={a:Nat->m N // ∀b,b<c d->a b=e.fn d b}
structure dN(b:cq):Prop where
 a2:c b.1<=4000000
 bp:∀a2∈b.1,c a2.2<=4000000
 a7:c b.2.1<=4000000
 bx:lq b
 aN:c b.2.2<=4000000
def VF(b)(d)(i:dN b)(p:d.1=1):
  bk (ι:={e:Nat->m N // ∀k,k<c (b.1.filter λj=>!(j.1==d.2.1))->e k=a2.fn (b.1.filter λj=>!(j.1==d.2.1)) k}) r 32 [b1 b,ei d] []
   (λ_=>.n (.agg [dC 0 (c b.1) (c (b.1.filter λj=>!(j.1==d.2.1))),dC 1 (c b.2.1) (c b.2.1),.c (hT b.2.2)])) (λe=>[.h 70 2 (c b.1) e.1,.h 74 2 (c b.2.1) (bj.fn b.2.1)]):=by refine bk.bD bd func32 rfl rfl rfl λq=>?_;refine aZ a v (g.aF (pe b i.a2 i.bp i.a7 i.bx i.aN) [] a (aZ a v (g.aF (Ue d p) [] a (aZ a v (g.cJ (Uk b d i.a2) a a a a E a ?_)))));rintro⟨e,o⟩;refine aZ a v (g.bh ⟨e,o⟩ [3,4] ?_ fI);simp
def VE(b)(d)(m:dN b)(p:d.1=1):Y r 32 [b1 b,ei d] [] (b1 (b.1.filter λa=>!(a.1==d.2.1),b.2.1,b.2.2)) []:=by
 have o:c (b.1.filter λa=>!(a.1==d.2.1))<=c b.1:=kB _ _;have e:=VF (r:=r) b d m p;have g:=bk.bM (aM:=λT:ul a2 (b.1.filter λa=>!(a.1==d.2.1))=>[.h 70 2 (c b.1) T.1]) (W:=74) (i:=2) (k:=λ_=>c b.2.1) (T:=λ_=>bj.fn b.2.1) e bl (λ_=>?_) bl (λ_=>gZ _);have j:=bk.bM (aM:=λ_=>[]) (W:=70) (i:=2) (k:=λ_=>c b.1) (T:=λT:ul a2 (b.1.filter λa=>!(a.1==d.2.1))=>T.1) g bl (λ_=>?_) bl (λ_=>bC _);refine(j.le (oG:=λ_=>b1 (b.1.filter λa=>!(a.1==d.2.1),b.2.1,b.2.2)) bl (λT=>?_)).aq
 .simp only[U.Y,U,a9,ba];exact⟨T.2,bt.same,bt.same⟩
 .simpa using o
 simp
def VP(b)(d)(e:dN b)(k:d.1≠1)(i:d.1≠2)(m:d.1≠3)(j:d.1≠4):
  bk (ι:=Unit) r 32 [b1 b,ei d] [] (λ_=>.n (.agg [dC 0 (c b.1) (c b.1),dC 1 (c b.2.1) (c b.2.1),.c (hT b.2.2)])) (λ_=>[.h 70 2 (c b.1) (a2.fn b.1),.h 74 2 (c b.2.1) (bj.fn b.2.1)]):=by refine bk.bD bd func32 rfl rfl rfl λo=>?_;refine aZ a v (g.aF (pe b e.a2 e.bp e.a7 e.bx e.aN) [] a (aZ a v (g.aF (Ug d k i m j) [] a (aZ a v (g.cJ (Wf (mQ b d) a (.ptr 5 0)).tocD a a a a E a ?_)))));intro _;refine aZ a v (g.bh () [3,4] ?_ fI);simp
def VI(b)(d:dL)(e:dN b)(i:d.1=2)(j:d.2.1<0∨d.2.1>c b.2.2):
  bk (ι:=Unit) r 32 [b1 b,ei d] [] (λ_=>.n (.agg [dC 0 (c b.1) (c b.1),dC 1 (c b.2.1) (c b.2.1),.c (hT b.2.2)])) (λ_=>[.h 70 2 (c b.1) (a2.fn b.1),.h 74 2 (c b.2.1) (bj.fn b.2.1)]):=by refine bk.bD bd func32 rfl rfl rfl λk=>?_;refine aZ a v (g.aF (pe b e.a2 e.bp e.a7 e.bx e.aN) [] a (aZ a v (g.aF (Iv d i) [] a (aZ a v (g.cJ (TD b d j).tocD a a a a E a ?_)))));intro _;refine aZ a v (g.bh () [3,4] ?_ fI);simp
def Cn{b}{d}(a:bk (ι:=Unit) r 32 [b1 b,ei d] [] (λ_=>.n (.agg [dC 0 (c b.1) (c b.1),dC 1 (c b.2.1) (c b.2.1),.c (hT b.2.2)])) (λ_=>[.h 70 2 (c b.1) (a2.fn b.1),.h 74 2 (c b.2.1) (bj.fn b.2.1)])):Y r 32 [b1 b,ei d] [] (b1 b) []:=by
 have e:=bk.bM (aM:=λ_:Unit=>[.h 70 2 (c b.1) (a2.fn b.1)]) (W:=74) (i:=2) (k:=λ_=>c b.2.1) (T:=λ_=>bj.fn b.2.1) a bl (λ_=>?_) bl (λ_=>gZ _);have g:=bk.bM (aM:=λ_:Unit=>[]) (W:=70) (i:=2) (k:=λ_=>c b.1) (T:=λ_=>a2.fn b.1) e bl (λ_=>?_) bl (λ_=>bC _);refine(g.le (oG:=λ_=>b1 b) bl (λT=>?_)).aq
 .simp only[U.Y,U,a9,ba];exact⟨bt.same,bt.same,bt.same⟩
 .simp
 simp
def VH(b)(i:dL)(d:dN b)(o:i.1=2)(j:Nat)(p:i.2.1=j)(q:j<=c b.2.2):
  bk (ι:=ul bj (b.2.1.filter λk=>!jo j b.2.2 k)) r 32 [b1 b,ei i] []
   (λ_=>.n (.agg [dC 0 (c b.1) (c b.1),dC 1 (c b.2.1) (c (b.2.1.filter λk=>!jo j b.2.2 k)),.c (.S l 2 i.2.1.toNat (a1.fn b.2.2))])) (λe=>[.h 70 2 (c b.1) (a2.fn b.1),.h 74 2 (c b.2.1) e.1]):=by refine bk.bD bd func32 rfl rfl rfl λs=>?_;refine aZ a v (g.aF (pe b d.a2 d.bp d.a7 d.bx d.aN) [] a (aZ a v (g.aF (Iv i o) [] a (aZ a v (g.cJ (TE b i j p q d.a7 d.aN) a a a a E a ?_)))));rintro⟨e,m⟩;refine aZ a v (g.bh ⟨e,m⟩ [3,4] ?_ fI);simp
def VG(b)(d:dL)(v:dN b)(q:d.1=2)(k:Nat)(w:d.2.1=k)(s:k<=c b.2.2):Y r 32 [b1 b,ei d] [] (b1 (b.1,b.2.1.filter λa=>!jo k b.2.2 a,b.2.2.take k)) []:=by
 have o:c (b.2.1.filter λa=>!jo k b.2.2 a)<=c b.2.1:=kB _ _;have e:=VH (r:=r) b d v q k w s;have g:=bk.bM (aM:=λ_:ul bj (b.2.1.filter λa=>!jo k b.2.2 a)=>[.h 70 2 (c b.1) (a2.fn b.1)]) (W:=74) (i:=2) (k:=λ_=>c b.2.1) (T:=λT=>T.1) e bl (λ_=>?_) bl (λ_=>gZ _);have j:=bk.bM (aM:=λ_:ul bj (b.2.1.filter λa=>!jo k b.2.2 a)=>[]) (W:=70) (i:=2) (k:=λ_=>c b.1) (T:=λ_=>a2.fn b.1) g bl (λ_=>?_) bl (λ_=>bC _);refine(j.le (oG:=λ_=>b1 (b.1,b.2.1.filter λa=>!jo k b.2.2 a,b.2.2.take k)) bl (λT=>?_)).aq
 .have p:d.2.1.toNat=c (b.2.2.take k):=M;simp only[U.Y,U,a9,ba];refine⟨bt.same,T.2,p,λu t=>?_⟩;have m:u<k:=M;simp[cZ.fn,gr,al,io,m]
 .simp
 simpa using o
end R1
def dG.b9:dG->Nat
 |.nil=>0
 |.ax a _ _ b=>a.b9+b.b9+1
namespace R1
variable {r:aj V}
def Us(q)(k):Y r 200 [ax (eH q),S k] [] (S (q.find k)) []:=by
 refine Y.K func200 rfl λt=>?_;refine aZ a v (g.loop (λd:dG=>d.find k=q.find k) (λd=>[(0,ax (eH d)),(1,S k)]) (λ_=>[]) (λd=>d.b9) q a (.cons a (eD a E)) a ?_);intro d b;cases d with
 |nil=>
  refine aZ a v (g.aO (rR a underlying246 a a a) a a ?_);refine a6 [(7,l),(15,l)] a E (g.bt a a ?_);refine aZ a v (g.aO (rR a underlying246 a a a) a a ?_);refine aZ a v (g.aw a ?_);exact bK
 |ax i e m j=>
  have s:(dG.ax i e m j).find k=if k=e then m else if k<e then i.find k else j.find k:=rfl;rw[s]at b;refine aZ a v (g.aO (tC a underlying246 a a a) a a ?_);by_cases p:k=e
  .subst p;rw[br a]at b;refine a6 [(7,f),(15,l)] a E (g.bt a a ?_);refine aZ a v (g.aO (tC a underlying246 a a a) a a ?_);refine aZ a v (g.aw a ?_);exact bw
  rw[bm p]at b;by_cases o:k<e
  .rw[br o]at b;cases i<;>exact a6 [(7,f),(15,f),(22,f)] rfl bw ⟨_,b,by simp only[dG.b9];omega,.cons rfl (eD rfl E),rfl⟩
  rw[bm o]at b;cases j<;>exact a6 [(7,f),(15,f),(22,l)] rfl bw ⟨_,b,by simp only[dG.b9];omega,.cons rfl (eD rfl E),rfl⟩
end R1
namespace R1
section
variable {r:aj V}
def IH(b)(d)(e:dN b)(k:d.1=4)(i:Nat->m N)(j:Y r 109 [aG 6 0,iK (l0 d)] (oK b d (a1.fn b.2.2)) (.Q []) (oK b d i)):
  bk (ι:=Unit) r 32 [b1 b,ei d] [] (λ_=>.n (.agg [dC 0 (c b.1) (c b.1),dC 1 (c b.2.1) (c b.2.1),dC 2 (c b.2.2) (c b.2.2)])) (λ_=>[.h 70 2 (c b.1) (a2.fn b.1),.h 74 2 (c b.2.1) (bj.fn b.2.1),.h 101 2 (c b.2.2) i]):=by refine bk.bD bd func32 rfl rfl rfl λo=>?_;refine aZ a v (g.aF (I2 b e.a2 e.bp e.a7 e.bx e.aN) [] a (aZ a v (g.aF (Uf d k) [] a (aZ a v (g.cJ j.tocD a a a a E a ?_)))));intro _;refine aZ a v (g.bh () [3,4,5] ?_ fI);simp
def II(b)(d)(T:Nat->m N)(e)(g:c e=c b.2.2)(q:bt (c b.2.2) T (a1.fn e))(j:bk (ι:=Unit) r 32 [b1 b,ei d] [] (λ_=>.n (.agg [dC 0 (c b.1) (c b.1),dC 1 (c b.2.1) (c b.2.1),dC 2 (c b.2.2) (c b.2.2)])) (λ_=>[.h 70 2 (c b.1) (a2.fn b.1),.h 74 2 (c b.2.1) (bj.fn b.2.1),.h 101 2 (c b.2.2) T])):
  Y r 32 [b1 b,ei d] [] (b1 (b.1,b.2.1,e)) []:=by
 have s:=bk.bM (aM:=λ_:Unit=>[.h 70 2 (c b.1) (a2.fn b.1),.h 74 2 (c b.2.1) (bj.fn b.2.1)]) (W:=101) (i:=2) (k:=λ_=>c b.2.2) (T:=λ_=>T) j bl (λ_=>?_) bl (λ_=>gZ _);have o:=bk.bM (aM:=λ_:Unit=>[.h 70 2 (c b.1) (a2.fn b.1)]) (W:=74) (i:=2) (k:=λ_=>c b.2.1) (T:=λ_=>bj.fn b.2.1) s bl (λ_=>?_) bl (λ_=>gZ _);have p:=bk.bM (aM:=λ_:Unit=>[]) (W:=70) (i:=2) (k:=λ_=>c b.1) (T:=λ_=>a2.fn b.1) o bl (λ_=>?_) bl (λ_=>bC _);refine(p.le (oG:=λ_=>b1 (b.1,b.2.1,e)) bl (λ_=>?_)).aq
 .simp only[U.Y,U,a9,ba];refine⟨bt.same,bt.same,g.symm,?_⟩;intro t a;exact q t (by first|exact a|(rw[<-g];exact a))
 .simp
 .simp
 simp
def VO(b)(a:dL)(d:dN b)(j:a.1=4)(e:0<=a.2.1)(g:a.2.1<c b.2.2)(i:a7 .i64 (3-lv b a)):
  Y r 32 [b1 b,ei a] [] (b1 (b.1,b.2.1,b.2.2.set (0+a.2.1.toNat) (3-lv b a,(b.2.2.getD (0+a.2.1.toNat) a1.I).2))) []:=
 II b a _ _ E (a1.cS b.2.2 (0+a.2.1.toNat) (3-lv b a,(b.2.2.getD (0+a.2.1.toNat) a1.I).2) (c b.2.2) (bC _)) (IH b a d j _ (Uv b a e g i))
def VN(b)(d:dL)(e:dN b)(i:d.1=4)(g:¬(0<=d.2.1/\d.2.1<c b.2.2)):Y r 32 [b1 b,ei d] [] (b1 b) []:=
 II b d _ b.2.2 a bt.same (IH b d e i _ (Uu b d g))
abbrev D2(a:cq)(j:dL)(e:Nat)(g b d:Nat)(i:m Z):m an:=tG a j [.h 70 2 (c a.1) (gf a.1 e (.slice (h ⟨g,0,n⟩) d b)),.h 74 2 (c a.2.1) (bj.fn a.2.1),.J (ck 103 2 (.row g b) d i)] (dC 3 (c a.1) (c a.1)) (dC 4 (c a.2.1) (c a.2.1)) (.c (hT a.2.2))
def gI(a:m cW)(b:Nat)(d:bE):m cW:=a.set b ((a.getD b (0,[])).1,d)
def Jm{ag}{q}{d}(m:eg 2 (c ag) (bG.fn ag) d)(e:A<c ag)(k:m7 B [.c (.V q)]):eg 2 (c ag) (bG.fn (gI ag A q)) (d.take (A*2+1)++B++d.drop (A*2+1+c B)):=by
 refine eg.fh m A 1 e k E (λr p i=>?_) a λg o b=>?_
 .simp[cZ.fn,gr,gI,al,o2,p_ i]
 have j:bG.fn (gI ag A q) A=[.int .i64 (ag.getD A (0,[])).1,.V q]:=by simp[cZ.fn,gr,gI,al,o2,e];rfl
 rw[j]at b;rcases g with _|_|g
 .simp at b;subst b;exact .inr ⟨by omega,a⟩
 .grind
 simp at b
def TI(b)(j:dL)(V:c b.1<=4000000)(d s e p:Nat)(ag)(O:(b.1.getD d (0,[])).2=ag)(T:d<c b.1)(K:(b.1.getD d (0,[])).1=j.2.1)(M:∀x,x<c b.1->x≠d->(b.1.getD x (0,[])).1≠j.2.1)(N:j.2.2.1=p)(R:p<c ag)(W:c ag<=4000000)(C)(J:eg 2 (c ag) (bG.fn ag) C):
  bk (ι:={z:m Z // eg 2 (c ag) (bG.fn (gI ag p j.2.2.2)) z}) r 108 [aG 6 0,iK (l0 j)] (D2 b j d s e (c ag) C) (λ_=>.Q []) (λz=>D2 b j d s e (c ag) z.1):=by
 refine bk.bP func108 rfl rfl rfl (g.aW ?_);refine aZ a v (g.aL 7 (λk:Nat×m Z=>k.1<=c b.1/\(k.1<=d->k.2=C)/\(d<k.1->eg 2 (c ag) (bG.fn (gI ag p j.2.2.2)) k.2)) (λk=>[(0,aG 6 0),(1,iK (l0 j)),(8,.n (.aq (dC 3 (c b.1) (c b.1)))),(9,S (c b.1)),(10,S k.1)]) (λk=>D2 b j d s e (c ag) k.2) (λk=>c b.1-k.1) (0,C) a E a E a ⟨by omega,λ_=>rfl,λF=>by omega⟩ ?_);rintro⟨i,o⟩ ⟨u,D,A⟩;simp only at u D A;have I:0+(i:Int).toNat=i:=y;by_cases F:i<c b.1
 .by_cases q:i=d
  .subst q;obtain rfl:=D (bC _);refine gJ [(11,f)] 12 a Oe (g.aO (a0.e8 bd (ai:=.agg [.c (.int .i64 j.2.1),.c (.val (.slice (h ⟨s,0,n⟩) (c ag) e))]) a a a a a ?_ ?_) a a ?_)
   .show h (E1.agg [.c (.int .i64 (b.1.getD (0+(i:Int).toNat) (0,[])).1),.c (nw b.1 i (.slice (h ⟨s,0,n⟩) (c ag) e) (0+(i:Int).toNat))])=_;rw[I,K,nw,br a]
   .show 0+(i:Int).toNat<_;omega
   refine a6 [(19,f),(24,f),(31,f)] a ?_ ?_
   .simp only[U,a7,bA,fZ,ba,a9];exact fr
   have Y:=J.len;have w:0+j.2.2.1.toNat*2+1=p*2+1:=y;refine g.eN bd 5 a a a a a a a ?_ a a λB t=>?_
   .show 0+j.2.2.1.toNat*2+1+1<=c o;omega
   have X:=Jm J R t;refine aZ a FA (g.aA (i+1,o.take (p*2+1)++B++o.drop (p*2+1+c B)) a E ?_ ?_ ?_)
   .simp only[U.Y,U,bt.same,a9,ba];show ck 103 2 _ _ (List.take (0+j.2.2.1.toNat*2+1) o++B++List.drop (0+j.2.2.1.toNat*2+1+c B) o)=_;rw[w]
   .grind
   grind
  have Q:=M i F q;refine gJ [(11,f)] 12 a Oe (g.aO (a0.e8 bd (ai:=.agg [.c (.int .i64 (b.1.getD i (0,[])).1),.c (.S l 2 (b.1.getD i (0,[])).2.length (bG.fn (b.1.getD i (0,[])).2))]) a a a a a ?_ ?_) a a ?_)
  .show h (E1.agg [.c (.int .i64 (b.1.getD (0+(i:Int).toNat) (0,[])).1),.c (nw b.1 d (.slice (h ⟨s,0,n⟩) (c ag) e) (0+(i:Int).toNat))])=_;rw[I,nw,bm q]
  .show 0+(i:Int).toNat<_;omega
  refine a6 [(19,l),(24,l),(31,l)] a ?_ (g.aA (i+1,o) a ?_ ?_ ?_ ?_)
  .simp only[U,a7,eX,ba,a9];exact⟨by omega,Q⟩
  .simp
  .simp
  .grind
  grind
 obtain rfl:i=c b.1:=y;refine a6 [(11,l)] a E (g.aC ?_);exact aZ a v ⟨⟨o,A T⟩,.inr a,a,a,_,_,_,a,a,a,v⟩
structure sj(b:cq)(d:dL)(i0 A:Nat):Prop where
 a9:i0<c b.1
 db:(b.1.getD i0 (0,[])).1=d.2.1
 b3:∀w,w<c b.1->w≠i0->(b.1.getD w (0,[])).1≠d.2.1
 bX:d.2.2.1=A
 gr:A<(b.1.getD i0 (0,[])).2.length
def Lr(ag)(A)(q):c (gI ag A q)=c ag:=by simp[gI]
def vb{a:cq}{i0}(b:i0<c a.1):a.1.getD i0 (0,[])∈a.1:=M
set_option maxRecDepth 20000 in
def VK(b)(d)(j:dN b)(t:d.1=3)(i0 A)(i:sj b d i0 A):
  bk (ι:={k:fj×m Z // eg 2 (b.1.getD i0 (0,[])).2.length (bG.fn (gI (b.1.getD i0 (0,[])).2 A d.2.2.2)) k.2}) r 32 [b1 b,ei d] []
   (λ_=>.n (.agg [dC 0 (c b.1) (c b.1),dC 1 (c b.2.1) (c b.2.1),.c (hT b.2.2)]))
   (λk=>[.h 70 2 (c b.1) (gf b.1 i0 (cX k.1.1 (b.1.getD i0 (0,[])).2.length)),.h 74 2 (c b.2.1) (bj.fn b.2.1),.J (ck 103 2 k.1.1 (b.1.getD i0 (0,[])).2.length k.1.2)]):=by have u:=i.gr;have s:=j.bp _ (vb i.a9);refine bk.bD bd func32 rfl rfl rfl λC=>?_;refine aZ a v (g.a_ (Xi b i0 i.a9 y j.a2 j.bp j.a7 j.bx j.aN) [] a bl ?_);rintro⟨⟨p,x⟩,B⟩;refine g.fB (ck.len (d:=5) a) λq=>?_;obtain⟨o,e,rfl⟩:=q.2.2.1 y;refine aZ a v (g.aF (Iw d t) [] a (aZ a v (g.cJ (TI b d j.a2 i0 o e A _ a i.a9 i.db i.b3 i.bX u s x B) a a a a E a ?_)));rintro⟨z,w⟩;refine aZ a v (g.bh ⟨(.row o e,z),w⟩ [3,4,5] ?_ fI);simp
abbrev g0(b:cq)(d:dL)(a e:Nat):cq:=(b.1.set a ((b.1.getD a (0,[])).1,gI (b.1.getD a (0,[])).2 e d.2.2.2),b.2.1,b.2.2)
def T1{q}{args}(b)(d)(i0 A)(x:i0<c b.1)(t:bk (ι:={g:fj×m Z // eg 2 (b.1.getD i0 (0,[])).2.length (bG.fn (gI (b.1.getD i0 (0,[])).2 A d.2.2.2)) g.2}) r q args []
   (λ_=>.n (.agg [dC 0 (c b.1) (c b.1),dC 1 (c b.2.1) (c b.2.1),.c (hT b.2.2)]))
   (λg=>[.h 70 2 (c b.1) (gf b.1 i0 (cX g.1.1 (b.1.getD i0 (0,[])).2.length)),.h 74 2 (c b.2.1) (bj.fn b.2.1),.J (ck 103 2 g.1.1 (b.1.getD i0 (0,[])).2.length g.1.2)])):
  Y r q args [] (b1 (g0 b d i0 A)) []:=by
 generalize e:b.1.getD i0 (0,[])=j at *;have z:∀o,o≠i0->a2.fn (g0 b d i0 A).1 o=a2.fn b.1 o:=λo p=>by simp[cZ.fn,gr,al,o2,p_ p]
 have C:a2.fn (g0 b d i0 A).1 i0=[.int .i64 j.1,.S l 2 (c j.2) (bG.fn (gI j.2 A d.2.2.2))]:=by have:(g0 b d i0 A).1.getD i0 a2.I=(j.1,gI j.2 A d.2.2.2):=M;show a2.a8 ((g0 b d i0 A).1.getD i0 a2.I)=_;rw[this];show[N.int .i64 j.1,N.S l 2 (c (gI j.2 A d.2.2.2)) (bG.fn (gI j.2 A d.2.2.2))]=_;rw[Lr]
 have y:=bk.fy (aM:=λg:{g:fj×m Z // eg 2 (c j.2) (bG.fn (gI j.2 A d.2.2.2)) g.2}=>[.h 70 2 (c b.1) (gf b.1 i0 (cX g.1.1 (c j.2))),.h 74 2 (c b.2.1) (bj.fn b.2.1)]) (e_:=λ_=>[.h 70 2 (c b.1) (a2.fn (g0 b d i0 A).1),.h 74 2 (c b.2.1) (bj.fn b.2.1)]) (W:=103) (i:=2) (k:=c j.2) (bO:=λg=>g.1.1) (ag:=λg=>g.1.2) t (λg=>g.2) 0 bl bl bl bl (λ_=>gZ _)
  (λg o p=>by exact bK)
  (λg o p s B I=>by
   by_cases u:o=i0
   .subst u;rw[C]at I;have:gf b.1 o (cX g.1.1 (c j.2)) o=[.int .i64 j.1,.val (cX g.1.1 (c j.2))]:=NI;rw[this];rcases s with _|_|s
    .simp at I;subst I;exact⟨_,a,.inl a⟩
    .exact QY
    exact bK
   .rw[z o u]at I;have:gf b.1 i0 (cX g.1.1 (c j.2)) o=a2.fn b.1 o:=EQ
    rw[this];exact⟨B,I,.inl a⟩)
 have v:=bk.bM (aM:=λ_=>[.h 70 2 (c b.1) (a2.fn (g0 b d i0 A).1)]) (W:=74) (i:=2) (k:=λ_=>c b.2.1) (T:=λ_=>bj.fn b.2.1) y bl (λ_=>?_) bl (λ_=>gZ _);have w:=bk.bM (aM:=λ_=>[]) (W:=70) (i:=2) (k:=λ_=>c b.1) (T:=λ_=>a2.fn (g0 b d i0 A).1) v bl (λ_=>?_) bl (λ_=>bC _);refine(w.le (oG:=λ_=>b1 (g0 b d i0 A)) bl (λ_=>?_)).aq
 .exact OT
 .simp
 simp
set_option maxRecDepth 20000 in
def VJ(b)(d)(e:dN b)(g:d.1=3)(i0 A)(a:sj b d i0 A):Y r 32 [b1 b,ei d] [] (b1 (g0 b d i0 A)) []:=
 T1 b d i0 A a.a9 (VK b d e g i0 A a)
def pV(d:cq)(b:dL):Prop:=∀a,a<c d.1->¬((d.1.getD a (0,[])).1=b.2.1/\0<=b.2.2.1/\b.2.2.1<(d.1.getD a (0,[])).2.length)
def TJ(b)(d)(k:dN b)(t:pV b d):Y r 108 [aG 5 0,iK (l0 d)] (mQ b d) (.Q []) (mQ b d):=by
 have z:=k.a2;refine bk.toY (bk.bP (ι:=Unit) (res:=λ_=>.Q []) (ao:=λ_=>mQ b d) func108 rfl rfl rfl (g.aW ?_));refine aZ a v (g.aL 6 (λe=>e<=c b.1) (λe:Nat=>[(0,aG 5 0),(1,iK (l0 d)),(8,.n (.aq (dC 3 (c b.1) (c b.1)))),(9,S (c b.1)),(10,S e)]) (λ_=>mQ b d) (λe=>c b.1-e) 0 a E a E a y ?_);intro e p;by_cases m:e<c b.1
 .have s:=t e m;have u:=k.bp _ (vb m);have q:0+(e:Int).toNat=e:=y;have j:b.1.getD (0+(e:Int).toNat) a2.I=b.1.getD e (0,[]):=by rw[q];rfl
  generalize b.1.getD e (0,[])=o at *;by_cases x:o.1=d.2.1
  .by_cases w:0<=d.2.2.1
   .have i:¬d.2.2.1<c o.2:=λi=>s ⟨x,w,i⟩;refine a6 [(11,f),(19,f),(24,f),(31,l)] a PI (g.aA (e+1) a E E sd ?_);omega
   refine a6 [(11,f),(19,f),(24,l),(31,l)] a PI (g.aA (e+1) a E E sd ?_);omega
  refine a6 [(11,f),(19,l),(24,l),(31,l)] a ?_ (g.aA (e+1) a ?_ ?_ ?_ ?_)
  .simp only[U,a7,j,eX,bA,dj,ba,a9];and_intros<;>first|exact x|omega
  .simp
  .simp
  .exact sd
  omega
 obtain rfl:e=c b.1:=y;refine a6 [(11,l)] a E (g.aC ?_);exact QQ
def VM(b)(d)(e:dN b)(j:d.1=3)(i:pV b d):
  bk (ι:=Unit) r 32 [b1 b,ei d] [] (λ_=>.n (.agg [dC 0 (c b.1) (c b.1),dC 1 (c b.2.1) (c b.2.1),.c (hT b.2.2)])) (λ_=>[.h 70 2 (c b.1) (a2.fn b.1),.h 74 2 (c b.2.1) (bj.fn b.2.1)]):=by refine bk.bD bd func32 rfl rfl rfl λk=>?_;refine aZ a v (g.aF (pe b e.a2 e.bp e.a7 e.bx e.aN) [] a (aZ a v (g.aF (Iw d j) [] a (aZ a v (g.cJ (TJ b d e i).tocD a a a a E a ?_)))));intro _;refine aZ a v (g.bh () [3,4] ?_ fI);simp
def VL(b)(d)(a:dN b)(g:d.1=3)(e:pV b d):Y r 32 [b1 b,ei d] [] (b1 b) []:=Cn (VM b d a g e)
end
section
open Go.Sort (pdq bitsLen ltInt Below)
variable {r:aj V}
def jX(a:m Int):m Int:=a.mergeSort λb d=>decide (b<=d)
def qT(d):c (jX d)=c d:=List.length_mergeSort _
def acB(d):pdq ltInt d.toArray 0 (c d) (bitsLen (c d)) f f=(jX d).toArray:=by have a:=Go.Sort.sortInt d;unfold Go.Sort.sort at a;rw[List.size_toArray]at a;exact Array.ext' bK
theorem S'(d):sX d.toArray=aA.fn d:=by funext w;simp only[sX,cZ.fn,gr,aA,al];simp
abbrev jd(b:Nat)(a:m Int):an:=.h 3 1 b (aA.fn a)
def Co(d)(b:c d<=4000000):Y r 154 [dJ (c d)] [jd (c d) d] (.Q []) [jd (c d) (jX d)]:=by
 refine Y.K func154 rfl λe=>?_;refine cu a bK (g.aF (IG (c d) b) [] a (cu a v ?_));have j:=sL (o:=c d) (i:=22) M;have key:Y r 189 [dJ (c d),S 0,S (c d),S (bitsLen (c d))] [jd (c d) d] (.Q []) [jd (c d) (jX d)]:=by have:=WB (r:=r) (c d) b (c d) d.toArray 0 (c d) (bitsLen (c d)) y E y (bC _) y (.inl a) (o:=0) a a a (acB d).symm;grind[S']
 exact g.aF key [0] a (cu a v se)
def fv(b:m Int):Nat->m Int
 |0=>[]
 |a+1=>if a≠0/\b.getD a 0=b.getD (a-1) 0 then fv b a else fv b a++[b.getD a 0]
def hK(a:m Int):m Int:=fv a (c a)
def w_(d):∀a,c (fv d a)<=a
 |0=>bC _
 |a+1=>by have:=w_ d a;simp[fv];grind
def uD{d}:∀{b:Nat},b<=c d->(∀a,1<=a->a<b->d.getD a 0≠d.getD (a-1) 0)->fv d b=d.take b
 |0,_,_=>by simp[fv]
 |b+1,i,g=>by rw[fv,bm,uD y λa e j=>g a e y,ie y 0];grind
structure Rs(d:m Int)(tf:Nat)(rM:Nat)(nJ:m Int):Prop where
 i':1<=rM
 fF:tf+rM<=c d
 len:c nJ=c d
 lt:c (fv d (tf+rM))<tf+rM
 done:nJ.take (c (fv d (tf+rM)))=fv d (tf+rM)
 hN:∀e,tf+rM<=e+1->nJ.getD e 0=d.getD e 0
abbrev Ag(d:m Int):Type:={a:Nat->m N // ∀b,b<c d->a b=aA.fn d b}
def Iq(d)(Z:c d<=4000000):bk (ι:=Ag (hK d)) r 155 [dJ (c d)] [jd (c d) d] (λ_=>cz 0 (.S (c d) 1 0 (c (hK d)))) (λA=>[.h 3 1 (c d) A.1]):=by
 refine bk.cr func155 rfl rfl rfl λY=>?_;by_cases O:c d<2
 .have q:hK d=d:=by unfold hK;rw[uD (bC _) λb _ _=>by omega,c9]
  refine bQ [(8,f)] a bw (g.bJ ⟨aA.fn d,λb _=>by rw[q]⟩ (g.aS [0] a ?_ g4));simp[q]
 refine bQ [(8,l)] a bw (g.cj (S2:=Unit) 0 a a (λ_=>hK d=d) (λ_=>[(0,dJ (c d))]) (λ_=>[jd (c d) d]) 1 (λi:Nat=>1<=i/\i<=c d/\∀b,1<=b->b<i->d.getD b 0≠d.getD (b-1) 0) (λi=>[(0,dJ (c d)),(3,S i)]) (λ_=>[jd (c d) d]) (λi=>c d-i) 1 a E a E a ⟨bC _,by omega,λb G O=>by omega⟩ ?_ ?_)
 .rintro du i ⟨V,bU,D⟩;by_cases ab:i<c d
  .have aa:((i:Int)-1).toNat=i-1:=y;have F:∀u,d.getD u aA.I=d.getD u 0:=λ_=>rfl;by_cases p:d.getD i 0=d.getD (i-1) 0
   .refine bQ [(13,f),(25,f)] a ?_ ?_
    .simp only[U,cV,c5,aa,F,p,a7,bA,fZ,ba,a9];exact fr
    have aR:=uD (d:=d) y D;have H:fv d (i+1)=d.take i:=by rw[fv,br ⟨by omega,p⟩,aR]
    refine g.cj (S2:=m Int) 2 a a (λs=>c s=c d/\s.take (c (hK d))=hK d) (λ_=>[(0,dJ (c d)),(3,S (c (hK d)))]) (λs=>[jd (c d) s]) 1 (λe:Nat×m Int=>Rs d i e.1 e.2) (λe=>[(0,dJ (c d)),(3,S (c (fv d (i+e.1)))),(4,cz 0 (.S (c d) 1 i (c d-i))),(5,S e.1)]) (λe=>[jd (c d) e.2]) (λe=>c d-e.1) (1,d) a bK a E a ?_ ?_ ?_
    .exact⟨bC _,by omega,a,by grind,by grind,λ_ _=>rfl⟩
    .rintro T ⟨j,s⟩ ⟨g1,iH,jH,uP,k,t⟩;simp only at g1 iH jH uP k t;by_cases ad:i+j<c d
     .have J:((j:Int)-1).toNat=j-1:=y;have C:∀u,s.getD u aA.I=s.getD u 0:=λ_=>rfl;have B:s.getD (i+j) 0=d.getD (i+j) 0:=t _ y;have Q:s.getD (i+(j-1)) 0=d.getD (i+(j-1)) 0:=t _ y;by_cases w:d.getD (i+j) 0=d.getD (i+(j-1)) 0
      .have K:fv d (i+(j+1))=fv d (i+j):=by rw[show i+(j+1)=i+j+1 by omega,fv,br ⟨by omega,by rw[w,show i+j-1=i+(j-1) by omega]⟩]
       refine bQ [(32,f),(44,l)] a ?_ (g.aA (j+1,s) a ?_ ?_ ?_ ?_)
       .simp only[U,cV,c5,J,C,B,Q,w,a7,bA,h0,f_,fZ,ba,a9];and_intros<;>first|trivial|omega
       .exact bK
       .simp
       .exact⟨by grind,by grind,jH,by grind,by grind,λb o=>t b M⟩
       omega
      have K:fv d (i+(j+1))=fv d (i+j)++[d.getD (i+j) 0]:=by rw[show i+(j+1)=i+j+1 by omega,fv,bm];rintro⟨_,p⟩;exact w (by rw[p,show i+j-1=i+(j-1) by omega])
      refine bQ [(32,f),(44,f)] a ?_ (g.aA (j+1,s.set (c (fv d (i+j))) (d.getD (i+j) 0)) a ?_ ?_ ?_ ?_)
      .simp only[U,cV,c5,J,C,B,Q,a7,bA,j8,eX,jC,dZ,ba,a9];and_intros<;>first|exact w|omega
      .exact bK
      .have x:=aA.cS s (c (fv d (i+j))) (d.getD (i+j) 0) (c d) y;simp only[U.Y,U,cV,c5,C,B,a9,ba];exact x
      .refine⟨by grind,by grind,by grind,by grind,?_,λb o=>?_⟩
       .simp only;rw[K,dn,show ∀R:Int,[R].length=1 fromλ_=>rfl,w5,AD,F0 M,k,im y];rfl
       simp only at o⊢;rw[al,kC y,<-al];grind
      omega
     have X:i+j=c d:=y;have I:fv d (i+j)=hK d:=bK;refine bQ [(32,l)] a bw (g.aC ?_);rw[I]at k;exact T s ⟨jH,k⟩ a (by simp[I]) a E
    rintro s ⟨N,z⟩;have W:c (hK d)<=c d:=w_ d _;refine cu a bw (g.aO (a0.eW bd a a a a a a wB) a a ?_);refine aZ a bw (g.aX ⟨⟨nK (0+bT 0 (h (c (hK d):Int))) (0+bT 0 (h (c (hK d):Int))+(bT (c d) n-bT 0 (h (c (hK d):Int)))) ec.zero (aA.fn s),λb o=>?_⟩,bW.mk [0] a ?_ a a a g4⟩)
    .have x:s[b]?=(hK d)[b]?:=M;refine(No wB).trans ?_;simp[cZ.fn,gr,al,x]
    exact bK
   refine bQ [(13,f),(25,l)] a ?_ (g.aA (i+1) a ?_ ?_ ?_ ?_)
   .simp only[U,cV,c5,aa,F,a7,bA,eX,dZ,ba,a9];and_intros<;>first|exact p|omega
   .simp
   .simp
   .grind
   omega
  obtain rfl:i=c d:=y;refine bQ [(13,l)] a E (g.aC ?_);exact du () (by unfold hK;rw[uD (bC _) D,c9]) a E a E
 rintro⟨⟩ q;refine cu a v (g.bJ ⟨aA.fn d,λb _=>by rw[q]⟩ (g.aS [0] a ?_ g4));simp[q]
end
section
variable {r:aj V}
def d_(a:m m2):m Int:=a.flatMap (·.2)
def fW(a:eF):m Int:=hK (jX (d_ a.2))
def Ku{d}(a:e<c d):d_ (d.take (e+1))=d_ (d.take e)++(d.getD e ([],[])).2:=by rw[ie a ([],[])];simp[d_]
def _root_.Go.AM.cZ.g'(b:cZ α)(a j)(k)(e:k=c (a++j)):bt k (ce (c a) (b.fn a) (b.fn j)) (b.fn (a++j)):=by intro g d;simp only[ce,cZ.fn,gr,al];grind
def W7(o)(A:c o.2<=4000000)(j:c (d_ o.2)<=4000000)(u:∀b,b<=c o.2->c (d_ (o.2.take b))<=4000000):
  bk (ι:=Ag (fW o)) r 124 [iM o] [] (λ_=>cz 0 (.S (c (d_ o.2)) 1 0 (c (fW o)))) (λd=>[.h 3 1 (c (d_ o.2)) d.1]):=by
 refine bk.cr func124 rfl rfl rfl λz=>?_;refine bQ [(1000002,f)] a v (g.fb 3 3 1 (aA.fn []) a ?_);refine cu a v ?_;refine g.aL 2 (λb=>b<=c o.2) (λb:Nat=>[(3,cz 1 (.S (c (d_ (o.2.take b))) 1 0 (c (d_ (o.2.take b))))),(7,cv.S o.2),(8,S (c o.2)),(9,S b)])
  (λb=>[.cells 74 [.c (.int .i64 o.1),.c (.S l 2 (c o.2) (cv.fn o.2))],jd (c (d_ (o.2.take b))) (d_ (o.2.take b))]) (λb=>c o.2-b) 0 a ?_ a ?_ a y ?_
 .simp[d_]
 .simp[bt,d_]
 intro b s;by_cases k:b<c o.2
 .have i:o.2.getD (b:Int).toNat cv.I=o.2.getD b ([],[]):=dA;have e:=Ku k;have q:=u (b+1) k;rw[e,dn]at q;refine bQ [(10,f)] a ?_ (g.aA (b+1) a ?_ ?_ ?_ ?_)
  .simp only[U,i,a7,show ec.bytes=8 from a,bA,ba,a9];exact fr
  .simp only[U.Y,U,i,e,dn,a9,ba];and_intros<;>first|exact bt.same|rfl|omega
  .have w:=aA.g' (d_ (o.2.take b)) (o.2.getD b ([],[])).2 _ a;simp_all
  .omega
  omega
 obtain rfl:b=c o.2:=y;rw[c9];refine bQ [(10,l)] a E (g.aC ?_);refine cu a v (g.aF (Co (d_ o.2) j) [1] a (cu a v ?_));have m:=Iq (r:=r) (jX (d_ o.2)) (by rw[qT];exact j);rw[qT]at m;refine g.a_ m [1] a bl ?_;rintro⟨d,p⟩;refine cu a v (g.bJ ⟨d,p⟩ (g.aS [1] a ?_ (λx t=>absurd t E)));simp[fW]
def Kv(d)(e):c (d_ (d.take e))<=c (d_ d):=by
 have a:d_ d=d_ (d.take e)++d_ (d.drop e):=by unfold d_;grind[List.take_append_drop]
 grind
def HJ(d):c (hK d)<=c d:=w_ d _
def W6(o)(e:c o.2<=4000000)(a:c (d_ o.2)<=4000000):Y r 124 [iM o] [] (aA.S (fW o)) []:=by
 have b:=W7 (r:=r) o e a λg _=>fG (Kv _ _) a;have d:=bk.bM (aM:=λ_:Ag (fW o)=>[]) (W:=3) (i:=1) (k:=λ_=>c (d_ o.2)) (T:=λT=>T.1) b bl (λ_=>?_) bl (λ_=>bC _);refine(d.le (oG:=λ_=>aA.S (fW o)) bl (λT=>?_)).aq
 .simp only[U.Y,U,a9,ba];exact T.2
 have:c (fW o)<=c (d_ o.2):=Q8;exact bw
def XF(b)(e)(d:d6 b=f)(q:3<=e)(i:e<=c b)(o:c b<=4000000):Y r 293 [b2 b,S e] [] (bh (pL b e)) []:=by
 refine Y.K func293 rfl λk=>?_;have m:=th d (e-1) y;have p:=th d (e-2) y;have t:=th d (e-3) y;have j:((kH b ((e:Int)-1)).toNat:Int)=dk b (e-1):=t_;have I:((kH b ((e:Int)-2)).toNat:Int)=dk b (e-2):=t_;have s:((kH b ((e:Int)-3)).toNat:Int)=dk b (e-3):=t_;refine aZ a ?_ (g.aw a ?_)
 .simp only[U,a7,j,I,s];omega
 exact NZ
abbrev Hp:bL:=en eB c8 (λa b=>bh (pL a b.toNat)) λa b=>[d6 a=f,3<=b,b<=c a,c a<=4000000]
def aec:bM r 293 Hp:=.bm λi b g=>by
 obtain⟨d,j,k,e⟩:=g;obtain⟨a,rfl⟩:∃a:Nat,b=a:=⟨b.toNat,by omega⟩
 exact XF i a d y y e
def Tz(q)(d)(e:d6 q=f)(u:d<=c q)(z:c q<=4000000):Y r 256 [b2 q,S d] [] (S (eC q d)) []:=by
 refine Y.K func256 rfl λw=>?_;have k:a8 r [(293,Hp)]:=.cons aec .nil;refine b_ k a v (g.ca (λb=>b<=5/\lN q d (5-b)=eC q d) (λb:Nat=>[(0,b2 q),(1,S d),(5,S (3+b))]) (λ_=>[]) (λb=>5-b) 0 a E a v ⟨by omega,a⟩ ?_);rintro b ⟨x,j⟩;by_cases t:b<5
 .obtain⟨i,bU⟩:∃i,5-b=i+1:=⟨4-b,by omega⟩
  have o:d+(7-i)=d+3+b:=y;rw[bU]at j;simp[lN,o]at j;by_cases m:c q<=d+3+b
  .rw[br m]at j;refine a_ k [(7,f),(15,f)] a Rk (g.bS (bW.zero a ?_));exact bw
  rw[bm m]at j;have ai:((d:Int)+(3+(b:Int))).toNat=d+3+b:=y;cases s:pL q (d+3+b)with
  |true=>
   rw[s,br a]at j;refine a_ k [(7,f),(15,l),(22,f)] a Qk (g.bS (bW.zero a ?_));exact bw
  |false=>
   rw[s,bm E]at j;refine a_ k [(7,f),(15,l),(22,l)] a Qk (g.b6 (b+1) a ?_ a v ⟨by omega,by grind⟩ y);exact bw
 have ai:eC q d=min (d+8) (c q):=by rw[<-j,show 5-b=0 by omega];rfl
 have p:a7 .i64 ((min (d+8) (c q):Nat):Int):=bK;refine a_ k [(7,l)] a bw (g.bt a a ?_);refine b_ k a bK (g.aO (yE ((min (d+8) (c q):Nat):Int) a a a y p) a a ?_);refine b_ k a v (g.aw a ?_);simp[ai]
abbrev GL:bL:=en eB c8 (λa b=>S (eC a b.toNat)) λa b=>[d6 a=f,0<=b,b<=c a,c a<=4000000]
def ado:bM r 256 GL:=.bm λi b g=>by
 obtain⟨d,j,k,e⟩:=g;obtain⟨a,rfl⟩:∃a:Nat,b=a:=⟨b.toNat,by omega⟩
 exact Tz i a d y e
abbrev mv(b:bE):m Int:=(SP b).map λa:Nat=>(a:Int)
def Ul(q)(z:d6 q=f)(D:c q<=4000000):Y r 217 [b2 q] [] (aA.S (mv q)) []:=by
 refine Y.K func217 rfl λC=>?_;have j:a8 r [(256,GL)]:=.cons ado .nil;refine a_ j [(1000003,f)] a v (g.bK 3 3 1 a a ?_);refine b_ j a v (g.aL 1 (λd:Nat×m Int=>d.1<=c q/\c d.2<=d.1/\∃e,c q<=d.1+e/\mv q=d.2++(lb q e d.1).map λA:Nat=>(A:Int)) (λd=>[(0,b2 q),(3,.n (.aq (.r 0 1 (c d.2) (aA.fn d.2)))),(4,S d.1)]) (λd=>[.r 3 1 (c d.2) (aA.fn d.2)]) (λd=>c q-d.1) (0,[]) a E a E a ⟨by simp,by simp,c q,by simp,by exact bK⟩ ?_);rintro⟨i,b⟩ ⟨x,w,e,o,t⟩;simp only at x w o t;by_cases k:i<c q
 .obtain⟨e,rfl⟩:∃p,e=p+1:=⟨e-1,by omega⟩
  have y:=sS q i k;have u:=aA.a0 b (eC q i:Int);have s:c b+1=c (b++[(eC q i:Int)]):=E;refine a_ j [(9,f)] a ?_ (g.aA (eC q i,b++[(eC q i:Int)]) a ?_ ?_ ?_ ?_)
  .simp only[U,z,show ec.bytes=8 from a,bA,ba,a9];exact fr
  .exact U.Y.2 ⟨a,U.Y.2 ⟨⟨s,u⟩,U.Y.2 ⟨a,v⟩⟩⟩
  .exact U.Y.2 ⟨⟨s,u⟩,v⟩
  .refine⟨y.2.1,by grind,e,by grind,?_⟩;rw[t];simp only[lb,br k];simp
  grind
 have B:mv q=b:=by
  have:lb q e i=[]:=by cases e<;>simp[lb,k]
  grind
 refine a_ j [(9,l)] a bw (g.aC ?_);refine b_ j a v (g.aw a ?_);simp_all
abbrev GS:bL:=df eB (λa=>aA.S (mv a)) λa=>[d6 a=f,c a<=4000000]
def adx:bM r 217 GS:=.ba λb a=>Ul b a.1 a.2
def S8{d a}{b:α}(i:d.drop e=b::a)(g:α):e<c d/\d.getD e g=b/\d.drop (e+1)=a:=by grind[List.drop_eq_nil_of_le,List.drop_eq_getElem_cons]
def If(q):∀a b,c (lb q a b)<=a
 |0,_=>bC _
 |a+1,b=>by
  simp[lb];split
  .have:=If q a (eC q b);grind
  simp
def Tt(q)(R:d6 q=f)(O:c q<=4000000):Y r 180 [b2 q] [] (bR.S (cy q)) []:=by
 refine Y.K func180 rfl λW=>?_;have k:a8 r [(217,GS)]:=.cons adx .nil;have V:c (mv q)<=c q:=by simp[mv,k3];exact If q _ _
 refine a_ k [(1000002,f)] a v (g.bK 3 9 1 a a ?_);refine b_ k a dA (g.aL 1 (λd:Nat×Nat×m bE=>d.1<=c (mv q)/\d.2.1<=c q/\c d.2.2<=d.1/\∃i,c q<=d.2.1+i/\(mv q).drop d.1=((lb q i d.2.1).map λJ:Nat=>(J:Int))/\cy q=d.2.2++jT q i d.2.1) (λd=>[(0,b2 q),(3,.n (.aq (.r 0 1 (c d.2.2) (bR.fn d.2.2)))),(4,S d.2.1),(5,aA.S (mv q)),(6,S d.1)]) (λd=>[.r 9 1 (c d.2.2) (bR.fn d.2.2)]) (λd=>c (mv q)-d.1) (0,0,[]) a E a E a ⟨by simp,by simp,by simp,c q,by simp,by exact bK,by simp[cy]⟩ ?_);rintro⟨t,b,e⟩ ⟨p,I,F,i,s,y,x⟩;simp only at p I F s y x;by_cases o:t<c (mv q)
 .have C:lb q i b≠[]:=by grind[List.length_drop]
  obtain⟨i,rfl⟩:∃w,i=w+1:=by
   cases i with
   |zero=>exact bK
   |succ i=>grind
  have j:b<c q:=by
   rcases dY b (c q) with o|o
   .exact o
   exact absurd (by simp[lb,bm (show¬b<c q by omega)]) C
  simp[lb,br j,mi]at y;obtain⟨_,X,N⟩:=S8 y 0;have K:=sS q b j;have u:(mv q).getD (t:Int).toNat aA.I=(eC q b:Int):=M;have z:mr q (h (b:Int)) (h (eC q b:Int))=(q.drop b).take (eC q b-b):=NR;have D:=bR.a0 e ((q.drop b).take (eC q b-b));have B:c e+1=c (e++[(q.drop b).take (eC q b-b)]):=E;refine a_ k [(13,f)] a ?_ (g.aA (t+1,eC q b,e++[(q.drop b).take (eC q b-b)]) a ?_ ?_ ?_ ?_)
  .simp only[U,u,a7,jf,show s_.bytes=16 from a,bA,ba,a9];exact fr
  .simp only[U.Y,U,u,z,ba,a9];and_intros<;>first|exact B|exact D|simp|omega
  .simp only[U.Y,U,u,z,ba,a9];and_intros<;>first|exact B|exact D
  .refine⟨by grind,K.2.1,by grind,i,by grind,N,?_⟩;rw[x];simp only[jT,br j];simp
  grind
 have T:cy q=e:=by
  have A:lb q i b=[]:=by grind[List.map_eq_nil_iff]
  have j:¬b<c q:=by
   intro Q;cases i with
   |zero=>omega
   |succ i=>simp only[lb,br Q]at A;cases A
  rw[x];cases i<;>simp[jT,j]
 refine a_ k [(13,l)] a dA (g.aC ?_);refine b_ k a v (g.aw a ?_);simp_all
abbrev xr:bL:=df eB (λa=>bR.S (cy a)) λa=>[d6 a=f,c a<=4000000]
def Em:bM r 180 xr:=.ba λb a=>Tt b a.1 a.2
def _root_.Go.AM.cZ.eZ(b:cZ α)(d)(o X):bt (c d+1+1) (ce (c d+1) (ce (c d) (b.fn d) λa=>[b.a8 o].getD a []) λa=>[b.a8 X].getD a []) (b.fn (d++[o,X])):=by
 have i:=b.a0 d o;have e:=b.a0 (d++[o]) X;rw[show(d++[o]).length=c d+1 by simp,show d++[o]++[X]=d++[o,X] by simp]at e;intro a j;rw[<-e a j];simp[ce];by_cases g:a<c d+1
 .rw[br g,br g];exact i a g
 grind
abbrev SU(a:cW):z:=.n (.agg [.c (.int .i64 a.1),.c (.V a.2)])
def jr(d:cW)(a:m cW×Bool)(b:cW):m cW×Bool:=if a.2=f then(a.1++[b],f)else if d.1<b.1 then(a.1++[d,b],f)else(a.1++[b],l)
def Mj(o):∀b(a:m cW),(b.foldl (jr o) (a,f))=(a++b,f)
 |[],a=>by simp
 |d::e,a=>by rw[j_,show jr o (a,f) d=(a++[d],f)from rfl,Mj o e];simp
def Mk(o):∀e(a:m cW),(if(e.foldl (jr o) (a,l)).2=f then(e.foldl (jr o) (a,l)).1 else(e.foldl (jr o) (a,l)).1++[o])=a++fC e o
 |[],a=>by simp[fC]
 |b::g,a=>by
  rw[j_];by_cases d:o.1<b.1
  .rw[show jr o (a,l) b=(a++[o,b],f) by simp[jr,d],Mj];simp[fC,d]
  rw[show jr o (a,l) b=(a++[b],l) by simp[jr,d],Mk o g];simp[fC,d]
theorem Ml(o):∀b(a:m cW×Bool),(b.foldl (jr o) a).1.length<=c a.1+c b+1-(if a.2=f then 1 else 0)
 |[],a=>by grind
 |e::d,a=>by rw[j_];have:=Ml o d (jr o a e);unfold jr at this⊢;grind
abbrev ml(d:cW)(b:m cW)(a:Nat):m cW×Bool:=(b.take a).foldl (jr d) ([],l)
def RP{o}{d}(a:e<c d):ml o d (e+1)=jr o (ml o d e) (d.getD e (0,[])):=ig
def F3(o)(d)(e):(ml o d e).1.length<=c d+1:=by grind[Ml]
abbrev aa0(d:m cW)(e:cW)(b:Nat)(a:m cW×Bool):bH:=[(0,bG.S d),(3,aG 0 0),(5,.n (.aq (.r 1 2 (c a.1) (bG.fn a.1)))),(6,bh a.2),(7,S b)]
abbrev aaZ(b:cW)(a:m cW):m an:=[.cells 103 [.c (.int .i64 b.1),.c (.V b.2)],.r 103 2 (c a) (bG.fn a)]
def WI(d)(o)(A:c d<=4000000):Y r 185 [bG.S d,SU o] [] (bG.S (fC d o)) []:=by
 refine Y.K func185 rfl λz=>?_;refine bQ [(1000002,f)] a v (g.bK 5 103 2 a a ?_);refine cu a v (g.aL 2 (λb=>b<=c d) (λb:Nat=>aa0 d o b (ml o d b)) (λb=>aaZ o (ml o d b).1) (λb=>c d-b) 0 a ?_ a ?_ a y ?_)
 .simp[ml]
 .simp[ml]
 intro b u;by_cases t:b<c d
 .have k:=RP (o:=o) t;have j:=F3 o d b;have ae:d.getD (b:Int).toNat bG.I=d.getD b (0,[]):=M;generalize ml o d b=e at k j;obtain⟨e,p⟩:=e;simp only at j;have i:=bG.a0 e (d.getD b (0,[]));have q:=bG.eZ e o (d.getD b (0,[]));cases p with
  |true=>
   have s:ml o d (b+1)=(e++[d.getD b (0,[])],f):=k;have w:c e+1=c (e++[d.getD b (0,[])]):=E;refine bQ [(12,f)] a ?_ (g.aA (b+1) a ?_ ?_ ?_ ?_)
   .simp only[U,ae,a7,show lX.bytes=24 from a,bA,ba,a9];exact fr
   .exact Od
   .exact OD
   .grind
   omega
  |false=>
   by_cases m:o.1<(d.getD b (0,[])).1
   .have s:ml o d (b+1)=(e++[o,d.getD b (0,[])],f):=by rw[k];simp only[jr,br m];rfl
    have w:c e+1+1=c (e++[o,d.getD b (0,[])]):=E;refine bQ [(12,f),(25,f)] a ?_ (g.aA (b+1) a ?_ ?_ ?_ ?_)
    .simp only[U,ae,a7,show lX.bytes=24 from a,m,na,bA,ba,a9];exact fr
    .rw[s];simp[U.Y,U,ae,ba,a9];and_intros<;>first|exact w|exact q|simp|rfl|omega
    .rw[s];simp[U.Y,U,ae,ba,a9];and_intros<;>first|exact w|exact q|exactλ_ _=>rfl|rfl|omega
    .grind
    omega
   have s:ml o d (b+1)=(e++[d.getD b (0,[])],l):=by rw[k];simp only[jr,bm m];rfl
   have w:c e+1=c (e++[d.getD b (0,[])]):=E;refine bQ [(12,f),(25,l)] a ?_ (g.aA (b+1) a ?_ ?_ ?_ ?_)
   .simp only[U,ae,a7,show lX.bytes=24 from a,bA,m,o3,qa,dj,ba,a9];exact fr
   .exact Od
   .exact OD
   .grind
   omega
 obtain rfl:b=c d:=y;have I:=Mk o d [];have j:=F3 o d (c d);refine bQ [(12,l)] a E (g.aC ?_);have x:ml o d (c d)=d.foldl (jr o) ([],l):=M;rw[x]at j⊢;generalize d.foldl (jr o) ([],l)=e at *;obtain⟨e,p⟩:=e;simp only[p8]at I j;cases p with
 |true=>
  exact QR
 |false=>
  simp only[j9,dh]at I;have i:=bG.a0 e o;refine cu a ?_ (g.aw a ?_)
  .simp only[U,show lX.bytes=24 from a,ba,a9];grind
  rw[<-I];simp only[U.Y,U,ba,a9];and_intros<;>first|exact i|simp
abbrev Hf:bL:=en (e0 bG) sn (λa b=>bG.S (fC a b)) λa _=>[c a<=4000000]
def ad3:bM r 185 Hf:=.bm λb d a=>WI b d a
abbrev SX(a:ft):z:=.n (.agg [.c (.int .i64 a.1),.c (.int .i64 a.2)])
def fh(d:ft)(a:m ft×Bool)(b:ft):m ft×Bool:=
 if a.2=f then(if b.1=d.1 then a else(a.1++[b],f))else if d.1<=b.1 then(if b.1=d.1 then(a.1++[d],f)else(a.1++[d,b],f))else(a.1++[b],l)
def zg(o):∀(e:m ft)a,(e.foldl (fh o) (a,f))=(a++e.filter λi=>!(i.1==o.1),f)
 |[],a=>by simp
 |d::g,a=>by
  rw[j_];by_cases b:d.1=o.1
  .rw[show fh o (a,f) d=(a,f) by simp[fh,b],zg o g];simp[b]
  rw[show fh o (a,f) d=(a++[d],f) by simp[fh,b],zg o g];simp[b]
def Mn(o):∀e(a:m ft),(if(e.foldl (fh o) (a,l)).2=f then(e.foldl (fh o) (a,l)).1 else(e.foldl (fh o) (a,l)).1++[o])=a++ew e o
 |[],a=>by simp[ew]
 |b::i,a=>by
  rw[j_];by_cases g:o.1<=b.1
  .have s:¬b.1<o.1:=y;by_cases d:b.1=o.1
   .rw[show fh o (a,l) b=(a++[o],f) by simp[fh,d],zg];simp[ew,d]
   rw[show fh o (a,l) b=(a++[o,b],f) by simp[fh,g,d],zg];simp[ew,s,d]
  have s:b.1<o.1:=y;rw[show fh o (a,l) b=(a++[b],l) by simp[fh,g],Mn o i];simp[ew,s]
theorem Mo(o):∀i(a:m ft×Bool),(i.foldl (fh o) a).1.length<=c a.1+c i+1-(if a.2=f then 1 else 0)
 |[],a=>by grind
 |b::k,a=>by
  rw[j_];have e:=Mo o k (fh o a b);obtain⟨a,j⟩:=a;simp[fl];cases j with
  |true=>
   by_cases d:b.1=o.1
   .rw[show fh o (a,f) b=(a,f) by simp[fh,d]]at e⊢;grind
   rw[show fh o (a,f) b=(a++[b],f) by simp[fh,d]]at e⊢;grind
  |false=>
   by_cases g:o.1<=b.1
   .by_cases d:b.1=o.1
    .rw[show fh o (a,l) b=(a++[o],f) by simp[fh,d]]at e⊢;grind
    rw[show fh o (a,l) b=(a++[o,b],f) by simp[fh,g,d]]at e⊢;grind
   rw[show fh o (a,l) b=(a++[b],l) by simp[fh,g]]at e⊢;grind
abbrev k5(d:ft)(b:m ft)(a:Nat):m ft×Bool:=(b.take a).foldl (fh d) ([],l)
def RQ{o}{d}(a:e<c d):k5 o d (e+1)=fh o (k5 o d e) (d.getD e (0,0)):=ig
def F4(o)(d)(e):(k5 o d e).1.length<=c d+1:=by grind[Mo]
abbrev aa2(d:m ft)(e:ft)(b:Nat)(a:m ft×Bool):bH:=[(0,e1.S d),(3,aG 0 0),(5,.n (.aq (.r 1 2 (c a.1) (e1.fn a.1)))),(6,bh a.2),(7,S b)]
abbrev aa1(b:ft)(a:m ft):m an:=[.cells 225 [.c (.int .i64 b.1),.c (.int .i64 b.2)],.r 225 2 (c a) (e1.fn a)]
def WJ(d)(o:ft)(z:c d<=4000000):Y r 184 [e1.S d,SX o] [] (e1.S (ew d o)) []:=by
 refine Y.K func184 rfl λx=>?_;refine bQ [(1000002,f)] a v (g.bK 5 225 2 a a ?_);refine cu a v (g.aL 2 (λb=>b<=c d) (λb:Nat=>aa2 d o b (k5 o d b)) (λb=>aa1 o (k5 o d b).1) (λb=>c d-b) 0 a ?_ a ?_ a y ?_)
 .simp[k5]
 .simp[k5]
 intro b t;by_cases q:b<c d
 .have i:=RQ (o:=o) q;have j:=F4 o d b;have ae:d.getD (b:Int).toNat e1.I=d.getD b (0,0):=M;generalize k5 o d b=e at i j;obtain⟨e,k⟩:=e;simp only at j;have w:=e1.a0 e (d.getD b (0,0));have m:=e1.a0 e o;have p:=e1.eZ e o (d.getD b (0,0));cases k with
  |true=>
   by_cases heq:(d.getD b (0,0)).1=o.1
   .have s:k5 o d (b+1)=(e,f):=by rw[i];simp only[fh,dH,br heq]
    refine bQ [(12,f),(38,l)] a PL (g.aA (b+1) a FI FI M ?_);omega
   have s:k5 o d (b+1)=(e++[d.getD b (0,0)],f):=by rw[i];simp only[fh,dH,bm heq]
   refine bQ [(12,f),(38,f)] a PL (g.aA (b+1) a Oz Pe M ?_);omega
  |false=>
   by_cases ai:o.1<=(d.getD b (0,0)).1
   .by_cases heq:(d.getD b (0,0)).1=o.1
    .have s:k5 o d (b+1)=(e++[o],f):=by rw[i];simp only[fh,br ai,br heq];rfl
     refine bQ [(12,f),(25,f),(38,l)] a EY (g.aA (b+1) a ?_ ?_ ?_ ?_)
     .rw[s];simp only[U.Y,U,ae,ba,a9];and_intros<;>first|exact w|exact m|simp|simp|rfl|omega|simp
     .rw[s];exact bK
     .grind
     omega
    have s:k5 o d (b+1)=(e++[o,d.getD b (0,0)],f):=by rw[i];simp only[fh,br ai,bm heq];rfl
    refine bQ [(12,f),(25,f),(38,f)] a EY (g.aA (b+1) a ?_ ?_ ?_ ?_)
    .rw[s];simp only[U.Y,U,ae,ba,a9];and_intros<;>first|exact w|exact m|exact p|simp|rfl|omega|simp
    .rw[s];simp only[U.Y,U,ae,ba,a9];and_intros<;>first|exact w|exact m|exact p|grind|rfl|omega|simp
    .grind
    omega
   have heq:¬(d.getD b (0,0)).1=o.1:=y;have s:k5 o d (b+1)=(e++[d.getD b (0,0)],l):=by rw[i];simp only[fh,bm ai];rfl
   refine bQ [(12,f),(25,l),(38,f)] a EY (g.aA (b+1) a Oz Pe M ?_);omega
 obtain rfl:b=c d:=y;have I:=Mn o d [];have j:=F4 o d (c d);refine bQ [(12,l)] a E (g.aC ?_);have u:k5 o d (c d)=d.foldl (fh o) ([],l):=M;rw[u]at j⊢;generalize d.foldl (fh o) ([],l)=e at *;obtain⟨e,k⟩:=e;simp only[p8]at I j;cases k with
 |true=>
  exact QR
 |false=>
  simp only[j9,dh]at I;have w:=e1.a0 e o;refine cu a ?_ (g.aw a ?_)
  .simp only[U,show ot.bytes=16 from a,ba,a9];grind
  rw[<-I];simp only[U.Y,U,ba,a9];and_intros<;>first|exact w|simp
abbrev Hg:bL:=en (e0 e1) p3 (λa b=>e1.S (ew a b)) λa _=>[c a<=4000000]
def ad4:bM r 184 Hg:=.bm λb d a=>WJ b d a
abbrev Ed(a:b'):m ft:=a.2.map λb=>(b.1,a.1)
def g'(b:m b')(a d:Nat):m ft:=dQ (b.take a)++(Ed (b.getD a (0,[]))).take d
def Ee{d}(a:e<c d):dQ (d.take (e+1))=dQ (d.take e)++Ed (d.getD e (0,[])):=by rw[ie a (0,[])];simp[dQ]
theorem Me(d)(e):c (dQ (d.take e))<=c (dQ d):=by have a:dQ d=dQ (d.take e)++dQ (d.drop e):=Ro;grind
def ze{d}(b:e<c d):∃g,dQ d=g' d e w++g:=by have a:dQ d=dQ (d.take (e+1))++dQ (d.drop (e+1)):=Ro;refine⟨(Ed (d.getD e (0,[]))).drop w++dQ (d.drop (e+1)),?_⟩;rw[a,Ee b,g',mj,mj];grind[List.take_append_drop]
theorem abz(d)(o):c (ew d o)<=c d+1:=by
 induction d with
 |nil=>simp[ew]
 |cons e b a=>
  simp only[ew];grind
theorem CL(d):∀a:m ft,c (d.foldl ew a)<=c a+c d:=by
 induction d with
 |nil=>grind
 |cons g e b=>grind[abz]
def U8(d)(J:c d<=4000000)(I:c (dQ d)<=100000):Y r 149 [a2.S d] [] (e1.S (e5 d)) []:=by
 refine Y.K func149 rfl λK=>?_;have e:a8 r [(183,Hn),(184,Hg)]:=.cons aea (.cons ad4 .nil);refine cJ e a v (g.aL 0 (λb=>b<=c d/\(dQ (d.take b)).all gv=f) (λb:Nat=>[(0,a2.S d),(3,e1.S ((dQ (d.take b)).foldl ew [])),(4,S b)]) (λ_=>[]) (λb=>c d-b) 0 a ?_ a ?_ a ⟨by omega,a⟩ ?_)
 .simp[dQ]
 .simp
 rintro b ⟨s,k⟩;by_cases m:b<c d
 .have i:d.getD (b:Int).toNat a2.I=d.getD b (0,[]):=M;have q:=Ee m;refine bf e [(11,f)] a bw (g.aL 0 (λw=>w<=(d.getD b (0,[])).2.length/\(g' d b w).all gv=f) (λw:Nat=>[(0,a2.S d),(3,e1.S ((g' d b w).foldl ew [])),(4,S b),(5,S w)]) (λ_=>[]) (λw=>(d.getD b (0,[])).2.length-w) 0 a ?_ a ?_ a ⟨by omega,by simpa[g']using k⟩ ?_)
  .simp[g']
  .simp
  rintro w ⟨O,C⟩;obtain⟨z,x⟩:=ze (d:=d) (w:=w) m;have B:c (g' d b w)<=100000:=M;have u:=CL (g' d b w) [];simp only[gA]at u;have D:(d.getD b (0,[])).2.length<=100000:=by grind[Me]
  by_cases N:w<(d.getD b (0,[])).2.length
  .have j:(d.getD b (0,[])).2.getD (w:Int).toNat bG.I=(d.getD b (0,[])).2.getD w (0,[]):=M;have t:g' d b (w+1)=g' d b w++[(((d.getD b (0,[])).2.getD w (0,[])).1,(d.getD b (0,[])).1)]:=Q5;cases o:gv (((d.getD b (0,[])).2.getD w (0,[])).1,(d.getD b (0,[])).1)with
   |false=>
    have A:e5 d=[]:=by obtain⟨z,x⟩:=ze (d:=d) (w:=w+1) m;unfold e5;rw[bm];grind
    refine bf e [(21,f),(40,l)] a ?_ (g.aX (bW.zero a ?_))
    .simp only[U,i,j,o,bA,ba,a9];exact fr
    rw[A];simp
   |true=>
    refine bf e [(21,f),(40,f)] a ?_ (g.aA (w+1) a ?_ ?_ ?_ ?_)
    .simp only[U,i,j,o,a7,e1.E,bA,ba,a9];and_intros<;>first|exact e1.U _|omega
    .rw[t];simp only[uy,j_,List.foldl_nil,U.Y,U,i,j,e1.E,ba,a9];and_intros<;>first|simp|rfl|omega
    .simp
    .grind
    omega
  have F:w=(d.getD b (0,[])).2.length:=y;have p:g' d b w=dQ (d.take (b+1)):=by rw[q,g'];grind[List.length_map]
  refine bf e [(21,l)] a ?_ (g.aC ?_)
  .simp only[U,i,dj];exact fr
  refine cJ e a bK (g.aA (b+1) a ?_ ?_ ?_ ?_)
  .rw[p];simp
  .simp
  .grind
  omega
 obtain rfl:b=c d:=y;rw[c9]at k⊢;refine bf e [(11,l)] a E (g.aC ?_);refine cJ e a v (g.aw a ?_);simp[e5,k]
abbrev GX:bL:=df (e0 a2) (λa=>e1.S (e5 a)) λa=>[c a<=4000000,c (dQ a)<=100000]
def adF:bM r 149 GX:=.ba λb a=>U8 b a.1 a.2
abbrev xy:bL:=en c8 eB (λa b=>S (e7 a b)) λa b=>[cK a=f,cC b=f]
abbrev Bu:bL:=df eB (λa=>b2 (fB a)) λa=>[cC a=f]
def MF:bM r 186 Bu:=.ba λb a=>Ww b a
theorem abu(d)(o):c (fC d o)=c d+1:=by
 induction d with
 |nil=>simp[fC]
 |cons e b a=>simp only[fC];split<;>simp[a]
def kn(d:Int)(a:m bE):m cW:=a.foldl (λe b=>fC e (e7 d b,fB b)) []
def Dj(i)(ab):c (kn i ab)=c ab:=by
 have d:∀ab b,c (ab.foldl (λe a=>fC e (e7 i a,fB a)) b)=c b+c ab:=by
  intro ab;induction ab with
  |nil=>grind
  |cons a j g=>grind[abu]
 have:=d ab [];rw[gA,cV]at this;exact this
def aaB{ab}(a:e<c ab):kn i (ab.take (e+1))=fC (kn i (ab.take e)) (e7 i (ab.getD e []),fB (ab.getD e [])):=by unfold kn;grind[ie]
abbrev abf(a:Int)(b:m cW):an:=.cells 70 [.c (.int .i64 a),.c (.S l 2 (c b) (bG.fn b))]
def VX(bS i)(ab)(e:cK i=f)(o:∀u∈ab,cC u=f)(z:c ab<=4000000):Y r 150 [S bS,S i,bR.S ab] [] (fA (kP bS i ab)) []:=by
 refine Y.bl bd func150 rfl rfl rfl λx=>?_;have d:a8 r [(177,xy),(186,Bu),(185,Hf)]:=.cons zk (.cons MF (.cons ad3 .nil));refine cJ d a v (g.aL 2 (λb=>b<=c ab) (λb:Nat=>[(1,S i),(2,bR.S ab),(6,aG 0 0),(7,aG 1 0),(8,S b)]) (λb=>[.cells 70 [.c (.int .i64 0),.c (.S f 0 0 λ_=>[])],abf bS (kn i (ab.take b))]) (λb=>c ab-b) 0 a E a ?_ a y ?_)
 .simp[kn]
 intro b q;by_cases p:b<c ab
 .have j:ab.getD (b:Int).toNat bR.I=ab.getD b []:=M;have k:cC (ab.getD b [])=f:=o _ M;have s:=aaB (i:=i) p;have m:=Dj i (ab.take b);rw[List.length_take]at m;refine bf d [(15,f)] a ?_ (g.aA (b+1) a ?_ ?_ ?_ ?_)
  .simp only[U,j,e,k,a7,bG.E,bA,ba,a9];and_intros<;>first|exact bG.U _|omega
  .simp
  .rw[s];simp only[U.Y,U,j,bG.E,ba,a9];and_intros<;>first|simp|rfl|omega
  .grind
  omega
 obtain rfl:b=c ab:=y;rw[c9];refine bf d [(15,l)] a E (g.aC ?_);refine cJ d a v (g.bh () [] ?_ (λw t=>absurd t E));simp[kP,kn]
def WF(b):Y r 255 [b2 b] [] (bh (cC b)) []:=by
 refine Y.K func255 rfl λi=>?_;have e:a8 r [(27,jI),(114,xo)]:=.cons ku (.cons t114 .nil);by_cases d:1<=c b/\c b<=8
 .refine a_ e [(6,f)] a bV (g.aw a ?_);simp[cC,d.1,d.2]
 refine a_ e [(6,l)] a bV (g.aw a ?_);have:cC b=l:=by simp[cC,<-Bool.decide_and,lE d,sD]
 simp[this]
abbrev Hc:bL:=df eB (λa=>bh (cC a)) λ_=>[]
def adY:bM r 255 Hc:=.ba λa _=>WF a
def Wv(a):Y r 213 [b2 a] [] (b2 (fB a)) []:=by
 refine Y.K func213 rfl λd=>?_;have b:a8 r [(255,Hc),(186,Bu)]:=.cons adY (.cons MF .nil);cases u:cC a with
 |true=>exact a_ b [(5,l)] rfl gV (g.aw rfl)
 |false=>exact a_ b [(5,f)] rfl gV (g.aw rfl (by simp[fB,u]))
abbrev Ha:bL:=df eB (λa=>b2 (fB a)) λ_=>[]
def adW:bM r 213 Ha:=.ba λa _=>Wv a
def aa_(b):c (fB b)<=8:=by
 unfold fB;split
 .rename_i a;simp[cC,cE,bA]at a;grind[Hz]
 simp
def Wt(j):Y r 176 [b2 j] [] (iL (h' j)) []:=by
 refine Y.K func176 rfl λA=>?_;have C:=A.V 0 a;have q:a8 r [(213,Ha)]:=.cons adW .nil;refine aZ a v ?_;have fin:∀k,k<=c j->fi (j.take k)=fi j->(k=0∨fi (j.take k)=j.take k)->j.take k=fi j:=λk d w p=>by
  rcases p with rfl|p
  .exact bK
  grind
 have e:∀k,k<=c j->j.take k=fi j->h' j=if c j<=8/\fB (fi j)=j/\k≠0 then h (j.take k)else n:=λk d w=>by
  have D:=aa_ (fi j);have t:k=0↔fi j=[]:=by grind[List.take_eq_nil_iff]
  unfold h';rw[w];by_cases I:fB (fi j)=j
  .by_cases i:cC (fi j)=f
   .have:k≠0:=λx=>by rw[t.1 x]at i;cases i
    grind
   have x:k=0:=t.2 (by rw[fB,bm i]at I;grind);grind
  grind
 refine g.cj (S2:=Nat) 0 a a (λk=>k<=c j/\j.take k=fi j) (λk=>[(0,b2 j),(4,S k)]) (λ_=>[]) 0 (λk=>k<=c j/\fi (j.take k)=fi j) (λk:Nat=>[(0,b2 j),(4,S k)]) (λ_=>[]) (λk=>k) (c j) a E a v a ⟨by omega,by simp⟩ ?_ ?_
 .rintro du k ⟨d,s⟩;rcases k with _|k
  .refine a6 [(9,l),(15,l)] a E (g.aC ?_);exact du 0 ⟨d,fin 0 d s (.inl a)⟩ a E a v
  have t:=Mq (b:=j) (k:=k) y;have ae:((k:Int)+1-1).toNat=k:=y;by_cases p:j.getD k 0=46
  .refine a6 [(9,f),(15,f)] a ?_ (g.aA k a ?_ v ⟨by omega,?_⟩ y)
   .have I:dk j k=46:=by unfold dk;exact bK
    exact O1
   .simp
   grind
  refine a6 [(9,f),(15,l)] a ?_ (g.aC ?_)
  .have I:dk j k≠46:=by unfold dk;intro B;exact p (uv.1 M)
   exact O1
  exact du (k+1) ⟨d,fin _ d s (.inr M)⟩ a E a v
 rintro k ⟨d,z⟩;have F:=e k d z;have u:mr j n (h (k:Int))=fi j:=z▸rfl;have o:((c j:Int)<=8)↔c j<=8:=y;by_cases m:c j<=8
 .by_cases iH:fB (fi j)=j
  .by_cases jH:k=0
   .refine a_ q [(21,l),(29,l),(32,f)] a ?_ (g.aw a ?_)
    .subst jH;simp[U,u,iH];grind
    exact bK
   refine a_ q [(21,l),(29,l),(32,l)] a ?_ (g.aw a ?_)
   .simp[u,o,m,iH,jH,d]
   exact bK
  refine a_ q [(21,l),(29,f),(32,f)] a ?_ (g.aw a ?_)
  .simp[u,o,m,iH,d]
  exact bK
 refine a_ q [(21,f),(29,f),(32,f)] a bV (g.aw a ?_);exact bK
abbrev Bt:bL:=df eB (λa=>iL (h' a)) λ_=>[]
def ME:bM r 176 Bt:=.ba λa _=>Wt a
def WO(i)(o)(a:cK i=f):Y r 142 [S i,BY o] [] (bh (right i o)) []:=by
 refine Y.K func142 rfl λd=>?_;have b:a8 r [(176,Bt),(177,xy)]:=.cons ME (.cons zk .nil);cases x:h' o.2 with
 |none=>exact a_ b [(14,l)] rfl oS (g.aw rfl (by simp[right,x]))
 |some e=>exact a_ b [(14,f)] rfl (by simp[x,a,K0 x]) (g.aw rfl (by simp[right,x]))
abbrev Bv:bL:=en c8 sn (λa b=>bh (right a b)) λa _=>[cK a=f]
def MG:bM r 142 Bv:=.bm λb d a=>WO b d a
def Vm(i):Y r 59 [S i] [] (bh (cK i)) []:=by refine Y.K func59 rfl λd=>?_;have b:a8 r [(27,jI)]:=.cons ku .nil;exact b_ b a v (g.aw a (by simp[cK]))
abbrev sP:bL:=df c8 (λa=>bh (cK a)) λ_=>[]
def v9:bM r 59 sP:=.ba λa _=>Vm a
abbrev xv(a:b'):an:=.cells 70 [.c (.int .i64 a.1),.c (lo a)]
def Wn(i)(b)(k):Y r 215 [S i,fA b,S k] [] (iL (gp i b k)) []:=by
 refine Y.K func215 rfl λx=>?_;have j:a8 r [(59,sP),(142,Bv),(176,Bt)]:=.cons v9 (.cons MG (.cons ME .nil));cases bU:cK i with
 |false=>
  refine a_ j [(11,f)] a j3 (g.aw a ?_);have:gp i b k=n:=by unfold gp jJ;grind
  simp[this]
 |true=>
 have z:=x.fZ 1 a 1 a;refine a_ j [(11,l)] a j3 (g.aL 1 (λd=>d<=c b.2/\b.2.find? (λo=>o.1==k)=(b.2.drop d).find? (λo=>o.1==k)) (λd:Nat=>[(0,S i),(4,aG 0 0),(2,S k),(8,S d)]) (λ_=>[xv b]) (λd=>c b.2-d) 0 a E a E a ⟨by omega,a⟩ ?_);rintro d ⟨w,e⟩;by_cases s:d<c b.2
 .have A:b.2.getD d bG.I=d9 b d:=rfl;have t:b.2.drop d=d9 b d::b.2.drop (d+1):=Fz;rw[t,List.find?_cons]at e;by_cases p:(d9 b d).1=k
  .rw[show((d9 b d).1==k)=f by grind]at e;cases m:right i (d9 b d)with
   |false=>
    have u:right i (k,(d9 b d).2)=l:=p▸m;refine a_ j [(16,f),(26,f),(34,f)] a dA (g.aX (bW.zero a ?_));have q:gp i b k=n:=by have:=BF (i:=i) (o:=d9 b d) bU;rw[m]at this;simp[gp,e];simp_all
    simp[q]
   |true=>
    have u:right i (k,(d9 b d).2)=f:=p▸m;refine a_ j [(16,f),(26,f),(34,l)] a dA (g.aX (bW.zero a ?_));have q:gp i b k=h' (d9 b d).2:=by simp[gp,e,jJ];unfold right at m;grind
    simp_all
  rw[show((d9 b d).1==k)=l by grind]at e;refine a_ j [(16,f),(26,l)] a ?_ (g.aA (d+1) a E E ⟨s,e⟩ y);simp[-al,A,p,a7,s];omega
 obtain rfl:d=c b.2:=y;refine a_ j [(16,l)] a E (g.aC ?_);refine b_ j a v (g.aw a ?_);simp[gp,e]
abbrev Hd:bL:=kg c8 (jz bG) c8 (λa d b=>iL (gp a d b)) λ_ _ _=>[]
def ad1:bM r 215 Hd:=.cZ λa d b _=>Wn a d b
theorem DA(b:Int)(a:b'):h_ b a=(decide (1<=a.1/\a.1<=99)&&cK b&&decide (1<=c a.2/\c a.2<=4)&&(aC (c a.2)).all (ic b a)):=by grind[Dy]
def acN{R:b'}(a:e≠0):ic i R e=(right i (d9 R e)&&decide ((d9 R (e-1)).1<(d9 R e).1)):=by unfold ic;grind
def Wq(i:Int)(R:b'):Y r 95 [S i,fA R] [] (bh (h_ i R)) []:=by
 refine Y.K func95 rfl λw=>?_;have d:a8 r [(27,jI),(59,sP),(142,Bv)]:=.cons ku (.cons v9 (.cons MG .nil));have z:=w.fZ 1 a 1 a;rw[DA];by_cases k:1<=R.1/\R.1<=99
 rotate_left
 .exact a_ d [(10,f),(14,f),(21,f)] a bV (g.aw a bK)
 cases e:cK i
 .exact a_ d [(10,l),(14,f),(21,f)] a dA (g.aw a)
 by_cases m:1<=c R.2/\c R.2<=4
 rotate_left
 .exact a_ d [(10,l),(14,l),(21,f)] a bK (g.aw a bw)
 refine a_ d [(10,l),(14,l),(21,l)] a lJ ?_;rw[fm k,fm m,fp,fp,fp];refine g.aL 1 (λb=>b<=c R.2/\∀s,s<b->ic i R s=f) (λb:Nat=>[(0,S i),(3,aG 0 0),(5,S b)]) (λ_=>[xv R]) (λb=>c R.2-b) 0 a E a E a ⟨by omega,by omega⟩ ?_;rintro b ⟨t,o⟩;by_cases u:b<c R.2
 .have C:R.2.getD b bG.I=d9 R b:=rfl;cases j:right i (d9 R b)with
  |false=>
   refine a_ d [(26,f),(37,f),(56,f)] a dA (g.aX (bW.zero a ?_));rw[kE u (by simp only[ic,j,sD])];simp
  |true=>
   by_cases q:b=0
   .subst q;refine a_ d [(26,f),(37,l),(40,l),(56,l)] a ?_ (g.aA 1 a E E ⟨u,iG o (by simp only[ic,j,fp];rfl)⟩ y);exact lJ
   have p:R.2.getD (b-1) bG.I=d9 R (b-1):=rfl;have A:=acN (i:=i) (R:=R) q;by_cases x:(d9 R (b-1)).1<(d9 R b).1
   .refine a_ d [(26,f),(37,l),(40,f),(54,l),(56,l)] a ?_ (g.aA (b+1) a E E ⟨u,iG o M⟩ y);simp[-al,C,p,j,e,u,x,a7];omega
   refine a_ d [(26,f),(37,l),(40,f),(54,f),(56,f)] a ?_ (g.aX (bW.zero a ?_))
   .simp[-al,C,p,j,e,u,a7];omega
   exact j2
 obtain rfl:b=c R.2:=y;refine a_ d [(26,l)] a E (g.aC ?_);exact b_ d a v (g.aw a bw)
abbrev G':bL:=en c8 (jz bG) (λa b=>bh (h_ a b)) λ_ _=>[]
def adT:bM r 95 G':=.bm λa b _=>Wq a b
def om{a:m α}{I:α}(b:e<c a):a.getD e I∈a:=M
def Yw{a:m Int}{b:Int}:a.contains b=!(aC (c a)).all λd=>!(a.getD d 0==b):=by rw[o5,j8,<-p7,f',Aw];grind[List.mem_iff_getElem]
def UE(d:m Int)(e:Int):Y r 55 [aA.S d,S e] [] (bh (d.contains e)) []:=by
 refine Y.K func55 rfl λo=>?_;have q:=o.S 0 a;refine aZ a v ?_;rw[Yw];refine g.ca (λb=>b<=c d/\∀j,j<b->(!(d.getD j 0==e))=f) (λb:Nat=>[(0,aA.S d),(1,S e),(5,S b)]) (λ_=>[]) (λb=>c d-b) 0 a E a v ⟨by omega,by omega⟩ ?_;rintro b ⟨p,k⟩;by_cases u:b<c d
 .have s:d.getD b aA.I=d.getD b 0:=rfl;by_cases i:d.getD b 0=e
  .refine a6 [(9,f),(17,f)] a ?_ (g.bS (bW.zero a ?_))
   .simp[-al,s,i,u]
   exact j2
  refine a6 [(9,f),(17,l)] a ?_ (g.b6 (b+1) a E a v ⟨u,iG k M⟩ y);simp[-al,s,i,u,a7];omega
 obtain rfl:b=c d:=y;refine a6 [(9,l)] a E (g.bt a a ?_);exact aZ a v (g.aw a dA)
abbrev uQ:bL:=en (e0 aA) c8 (λa b=>bh (a.contains b)) λ_ _=>[]
def zj:bM r 55 uQ:=.bm λa b _=>UE a b
def WC(e:Int)(b:m b')(i:Int):Y r 178 [S e,a2.S b,S i] [] (iL (dM e b i)) []:=by
 refine Y.K func178 rfl λt=>?_;have w:=t.S 1 a;have o:a8 r [(215,Hd)]:=.cons ad1 .nil;refine b_ o a v (g.ca (λd=>d<=c b/\dM e b i=dM e (b.drop d) i) (λd:Nat=>[(0,S e),(1,a2.S b),(2,S i),(8,S d)]) (λ_=>[]) (λd=>c b-d) 0 a E a v ⟨by omega,a⟩ ?_);rintro d ⟨u,j⟩;by_cases p:d<c b
 .have s:b.drop d=b.getD d (0,[])::b.drop (d+1):=Fz;have q:((b.getD d a2.I).1,bG.af (b.getD d a2.I).2.length (bG.fn (b.getD d a2.I).2))=b.getD d (0,[]):=bK;rw[s,show dM e (b.getD d (0,[])::b.drop (d+1)) i=_ from List.findSome?_cons]at j;cases k:gp e (b.getD d (0,[])) i with
  |some x=>
   rw[k]at j;refine a_ o [(14,f),(27,f)] a ?_ (g.bS (bW.zero a ?_))
   .simp[-al,q,k,p,bG.U]
   simp_all
  |none=>
   rw[k]at j;refine a_ o [(14,f),(27,l)] a ?_ (g.b6 (d+1) a E a v ⟨p,j⟩ y);simp[-al,q,k,p,a7,bG.U];omega
 obtain rfl:d=c b:=y;refine a6 [(14,l)] a E (g.bt a a ?_);exact aZ a v (g.aw a (by rw[j,sB];simp[dM]))
abbrev Hb:bL:=kg c8 (e0 a2) c8 (λb a d=>iL (dM b a d)) λ_ _ _=>[]
def adX:bM r 178 Hb:=.cZ λb a d _=>WC b a d
def WP(x j):Y r 216 [bR.S x,bR.S j] [] (bh (x==j)) []:=by
 refine Y.K func216 rfl λo=>?_;have u:=o.S 0 a;by_cases s:c x=c j
 rotate_left
 .have:(x==j)=l:=eX.2 M;exact a6 [(10,f)] a bV (g.aw a (by simp[this]))
 refine a6 [(10,l)] a bV (g.ca (λb=>b<=c x/\∀d,d<b->x.getD d []=j.getD d []) (λb:Nat=>[(0,bR.S x),(1,bR.S j),(5,S b)]) (λ_=>[]) (λb=>c x-b) 0 a E a v ⟨by omega,by omega⟩ ?_);rintro b ⟨q,t⟩;by_cases p:b<c x
 .have i:∀k:m bE,k.getD b bR.I=k.getD b []:=λ_=>rfl;by_cases e:x.getD b []=j.getD b []
  .refine a6 [(14,f),(25,l)] a ?_ (g.b6 (b+1) a E a v ⟨p,λd w=>?_⟩ y)
   .simp[-al,i,e,a7];omega
   grind
  refine a6 [(14,f),(25,f)] a ?_ (g.bS (bW.zero a ?_))
  .simp[-al,i,e];omega
  exact E0
 obtain rfl:b=c x:=y;have:x=j:=rm s λd e z=>by grind
 refine a6 [(14,l)] a E (g.bt a a ?_);exact aZ a v (g.aw a (by simp[this]))
def ad7:bM r 216 xu:=.bm λa b _=>WP a b
def K8(q):∀d e b,b∈jT q d e->c b<=8
 |0,_,b,a=>by exact bK
 |d+1,e,b,a=>by
  simp only[jT]at a;split at a
  .rename_i g;rcases fo.1 a with rfl|a
   .grind [sS]
   exact K8 q d _ b a
  grind
def SR{d}{a}(e:a∈d)(g:8<c a):jK d=n:=by unfold jK;rw[bm];intro b;simp[cE,hg]at b;have:=K8 d.flatten (c d.flatten) 0 a (by rw[show jT d.flatten (c d.flatten) 0=d from b.2];exact e);omega
def X9(a:m bE)(e):(a.take e).flatten.length<=c a.flatten:=FD
def SQ{d:m bE}(b:40<(d.take e).flatten.length):jK d=n:=by have:=X9 d e;unfold jK;rw[bm];intro a;simp only[cE,fD,bA]at a;omega
def Vk(d):Y r 179 [bR.S d] [] (iL (jK d)) []:=by
 refine Y.K func179 rfl λq=>?_;have t:=q.S 0 a;have b:a8 r [(65,xp),(180,xr),(216,xu)]:=.cons Mv (.cons Em (.cons ad7 .nil));refine b_ b a v (g.ca (λe=>e<=c d/\(d.take e).flatten.length<=48) (λe:Nat=>[(0,bR.S d),(4,b2 (d.take e).flatten),(5,S e)]) (λ_=>[]) (λe=>c d-e) 0 a E a v ⟨by omega,by simp⟩ ?_);rintro e ⟨p,m⟩;by_cases k:e<c d
 .have j:d.getD e bR.I=d.getD e []:=rfl;have w:(d.take (e+1)).flatten=(d.take e).flatten++d.getD e []:=ig;by_cases i:c (d.getD e [])<=8
  .by_cases s:(d.take e).flatten.length<=40
   .refine a_ b [(9,f),(18,l),(22,l)] a ?_ (g.b6 (e+1) a ?_ a v ⟨k,by grind⟩ y)
    .simp[-al,-List.length_flatten,j,a7];omega
    simp_all
   refine a_ b [(9,f),(18,l),(22,f)] a ?_ (g.bS (bW.zero a ?_))
   .simp[-al,-List.length_flatten,j];omega
   simp[SQ (d:=d) (e:=e) y]
  refine a_ b [(9,f),(18,f),(22,f)] a ?_ (g.bS (bW.zero a ?_))
  .simp[-al,j];omega
  simp[U,U.Y,SR (om (I:=[]) k) y]
 obtain rfl:e=c d:=y;rw[c9]at m⊢;refine a_ b [(9,l)] a E (g.bt a a ?_);have o:=bR.E d;cases i:fD d.flatten with
 |false=>exact a_ b [(32,f),(38,f)] rfl (by simp[i]) (g.aw rfl (by simp[jK,i]))
 |true=>
  have u:d6 d.flatten=f:=by simp[fD,cE]at i;exact i.2
  cases s:(cy d.flatten==d)with
  |false=>
   refine a_ b [(32,l),(38,f)] a ?_ (g.aw a (by simp[jK,s]));exact bK
  |true=>
   refine a_ b [(32,l),(38,l)] a ?_ (g.aw a (by simp[jK,i,s]));exact bK
abbrev G0:bL:=df (e0 bR) (λa=>iL (jK a)) λ_=>[]
def adJ:bM r 179 G0:=.ba λa _=>Vk a
abbrev zc(a:eF):an:=.cells 74 [.c (.int .i64 a.1),.c (.S l 2 (c a.2) (cv.fn a.2))]
abbrev ns(d:Int)(b:m b')(a:m Int):m bE:=a.map λe=>(dM d b e).getD []
def Yv{ab}{a}(b:w<c a):ns i ab (a.take (w+1))=ns i ab (a.take w)++[(dM i ab (a.getD w 0)).getD []]:=ig
def X1{ab}{a}(d:w<c a)(b:dM i ab (a.getD w 0)=n):h5 i ab a=n:=NB
def X2{ab}{a}(d:∀b,b<c a->(dM i ab (a.getD b 0)).isSome=f):h5 i ab a=h (ns i ab a):=by unfold h5;rw[br];grind[List.mem_iff_getElem]
def Xa(i)(b)(ab)(aa:c b.2<=4000000)(T:∀e∈b.2,c e.2<=4000000):
  Y r 143 [S i,iM b,a2.S ab] [] (r3 ((ff i b ab).getD []) (ff i b ab).isSome) []:=by
 refine Y.K func143 rfl λH=>?_;have p:a8 r [(59,sP),(178,Hb),(179,G0),(38,sN)]:=.cons v9 (.cons adX (.cons adJ (.cons t38 .nil)));cases bU:cK i with
 |false=>
  refine a_ p [(19,f)] a j3 (g.aw a ?_);simp[ff,bU]
 |true=>
 refine a_ p [(19,l),(1000004,f)] a j3 (g.bK 8 114 2 a a ?_);refine b_ p a v (g.aL 2 (λo=>o<=c b.2/\∀m,m<o->(hj i ab (b.2.getD m ([],[]))).isSome=f) (λo:Nat=>[(0,S i),(2,a2.S ab),(4,aG 0 0),(8,.n (.aq (.r 1 2 (c (fH i ab (b.2.take o))) (bD.fn (fH i ab (b.2.take o)))))),(9,S o)]) (λo=>[zc b,.r 114 2 (c (fH i ab (b.2.take o))) (bD.fn (fH i ab (b.2.take o)))]) (λo=>c b.2-o) 0 a z2 a z2 a ⟨by omega,by omega⟩ ?_);rintro o ⟨V,N⟩;by_cases w:o<c b.2
 .have F:=T _ (om (I:=([],[])) w);have ae:=CA (i:=i) (ab:=ab) w;have X:c (fH i ab (b.2.take o))=o:=by simp[fH];omega
  have j:b.2.getD (o:Int).toNat cv.I=b.2.getD o ([],[]):=M;have C:=D9 (i:=i) (ab:=ab) w;generalize z:b.2.getD o ([],[])=e at F ae j C;generalize fH i ab (b.2.take o)=q at *;refine a_ p [(25,f),(1000008,f)] a bV (g.bK 10 9 1 a a ?_);refine b_ p a v (g.aL 3 (λm=>m<=c e.2/\∀x,x<m->(dM i ab (e.2.getD x 0)).isSome=f) (λm:Nat=>[(0,S i),(2,a2.S ab),(4,aG 0 0),(8,.n (.aq (.r 1 2 (c q) (bD.fn q)))),(9,S o),(10,.n (.aq (.r 2 1 (c (ns i ab (e.2.take m))) (bR.fn (ns i ab (e.2.take m)))))),(11,S m)]) (λm=>[zc b,.r 114 2 (c q) (bD.fn q),.r 9 1 (c (ns i ab (e.2.take m))) (bR.fn (ns i ab (e.2.take m)))]) (λm=>c e.2-m) 0 a E a E a ⟨by omega,by omega⟩ ?_);rintro m ⟨ad,Z⟩;by_cases D:m<c e.2
  .have s:e.2.getD (m:Int).toNat aA.I=e.2.getD m 0:=M;cases A:dM i ab (e.2.getD m 0)with
   |none=>
    have u:hj i ab e=n:=by simp[hj,X1 D A]
    refine a_ p [(37,f),(56,f)] a ?_ (g.aX (g.dK (bW.zero a ?_)))
    .simp only[U,j,s,A,a2.E,a2.U];grind
    rw[C u];simp
   |some x=>
    have d:=Yv (i:=i) (ab:=ab) D;rw[A]at d;have Q:c (ns i ab (e.2.take m))=m:=M;have t:=bR.a0 (ns i ab (e.2.take m)) x;refine a_ p [(37,f),(56,l)] a ?_ (g.aA (m+1) a ?_ ?_ ⟨D,λW R=>?_⟩ y)
    .simp only[U,j,s,A,a2.E,a2.U,Q,a7,show s_.bytes=16 from a];grind
    .exact PM
    .exact PM
    grind
  obtain rfl:m=c e.2:=y;have J:=X2 Z;rw[c9];have Q:c (ns i ab e.2)=c e.2:=E;refine a_ p [(37,l)] a (by simp only[U,j];simp[w]) (g.aC ?_);cases k:jK (ns i ab e.2)with
  |none=>
   have u:hj i ab e=n:=by simp[hj,J,k]
   refine a_ p [(68,f)] a ?_ (g.aX (bW.zero a ?_))
   .simp only[U,bR.E,bR.U,k];simp
   rw[C u];simp
  |some K=>
   have u:hj i ab e=h (e.1,K):=by simp[hj,J,k]
   rw[u]at ae;have O:=bD.a0 q (e.1,K);refine a_ p [(68,l)] a ?_ (g.aA (o+1) a ?_ ?_ ⟨w,λW R=>?_⟩ y)
   .simp only[U,j,bR.E,bR.U,k,X,a7,show qA.bytes=32 from a];grind
   .exact P'
   .exact P'
   grind
 obtain rfl:o=c b.2:=y;rw[c9];have G:b.2.all (λe=>(hj i ab e).isSome)=f:=List.all_eq_true.2 λe F=>by grind[List.mem_iff_getElem]
 refine a_ p [(25,l)] a E (g.aC ?_);cases B:dV (fH i ab b.2)with
 |false=>
  refine a_ p [(83,f)] a ?_ (g.aw a ?_)
  .simp[bD.E,bD.U,B]
  simp[ff,B]
 |true=>
  refine a_ p [(83,l)] a ?_ (g.aw a ?_)
  .simp[bD.E,bD.U,B]
  simp[ff,B,bU,G]
abbrev Hm:bL:=kg c8 (jz cv) (e0 a2) (λd b a=>r3 ((ff d b a).getD []) (ff d b a).isSome) λ_ b _=>[c b.2<=4000000,∀e∈b.2,c e.2<=4000000]
def ad':bM r 143 Hm:=.cZ λd e a b=>Xa d e a b.1 b.2
abbrev Af:=Int×Int
def hx(a:Af):Bool:=decide (1<=a.1/\a.1<=2)&&decide (1<=a.2/\a.2<=20)
def g8(a:m Af):Bool:=(aC (c a)).all (λb=>hx (a.getD b (0,0)))&&decide (c a<=9)
abbrev BX(a:Af):z:=.n (.agg [.c (.int .i64 a.1),.c (.int .i64 a.2)])
def UM(b):Y r 144 [BX b] [] (bh (hx b)) []:=by
 refine Y.K func144 rfl λi=>?_;have e:a8 r [(27,jI)]:=.cons ku .nil;by_cases d:1<=b.1/\b.1<=2
 .exact a_ e [(6,f)] a (by simp[d]) (g.aw a (by simp[hx,d]))
 exact a_ e [(6,l)] a bV (g.aw a (by simp only[U,hx,lE d];simp))
def VU(d):Y r 97 [a1.S d] [] (bh (g8 d)) []:=by
 refine Y.K func97 rfl λo=>?_;have s:=o.S 0 a;have i:a8 r [(144,df p3 (λe=>bh (hx e)) λ_=>[])]:=.cons (.ba λe _=>UM e) .nil;refine b_ i a v ?_;unfold g8;refine g.ca (λb=>b<=c d/\∀m,m<b->hx (d.getD m (0,0))=f) (λb:Nat=>[(0,a1.S d),(3,S b)]) (λ_=>[]) (λb=>c d-b) 0 a E a v ⟨by omega,by omega⟩ ?_;rintro b ⟨q,k⟩;by_cases e:b<c d
 .have p:d.getD b a1.I=d.getD b (0,0):=rfl;cases j:hx (d.getD b (0,0))with
  |false=>
   refine a_ i [(7,f),(15,f)] a dA (g.bS (bW.zero a ?_));rw[kE e j];simp
  |true=>
   refine a_ i [(7,f),(15,l)] a ?_ (g.b6 (b+1) a E a v ⟨e,iG k j⟩ y);simp[-al,p,j,e,a7];omega
 obtain rfl:b=c d:=y;refine a_ i [(7,l)] a E (g.bt a a ?_);exact b_ i a v (g.aw a (by rw[f'.2 k];simp;omega))
abbrev n7:bL:=df (e0 a1) (λa=>bh (g8 a)) λ_=>[]
def MA:bM r 97 n7:=.ba λa _=>VU a
def dg(a:m b'):m Int:=a.flatMap λb=>b.2.map (·.1)
def ka(d:α->Int)(b:α)(e:m α)(a:Nat):Bool:=a==0||decide (d (e.getD (a-1) b)<d (e.getD a b))
def nG(d:Int)(a:m b')(b:Nat):Bool:=h_ d (a.getD b (0,[]))&&ka (·.1) (0,[]) a b
def lr(d:Int)(a:cq)(b:Nat):Bool:=decide (1<=(a.2.1.getD b (0,[])).1/\(a.2.1.getD b (0,[])).1<=20)&&ka (·.1) (0,[]) a.2.1 b&&(ff d (a.2.1.getD b (0,[])) a.1).isSome
def hV(b:Int)(a:cq):Bool:=(aC (c a.1)).all (nG b a.1)&&decide (dg a.1).Nodup&&(aC (c a.2.1)).all (lr b a)&&cK b&&g8 a.2.2&&decide (c a.1<=20)
def Kx{ab}(a:e<c ab):dg (ab.take (e+1))=dg (ab.take e)++(ab.getD e (0,[])).2.map (·.1):=by rw[ie a (0,[])];simp[dg]
def aaF{ab}(a:¬(dg (ab.take e)).Nodup):¬(dg ab).Nodup:=λb=>a (by
 have:dg ab=dg (ab.take e)++dg (ab.drop e):=Rm
 grind)
abbrev oM(a:cq):an:=.cells 27 [.c (.S l 2 (c a.1) (a2.fn a.1)),.c (.S l 2 (c a.2.1) (bj.fn a.2.1)),.c (.S l 2 (c a.2.2) (a1.fn a.2.2))]
def UD(i)(b)(o)(j:c o.2<=4000000)(m:∀e∈o.2,c e.2<=4000000):Y r 96 [S i,b1 b,iM o] [] (bh (ff i o b.1).isSome) []:=by
 refine Y.K func96 rfl λk=>?_;have d:a8 r [(143,Hm)]:=.cons ad' .nil;have p:(o.1,cv.af (c o.2) (cv.fn o.2))=o:=by rw[cv.E]
 refine b_ d a bK (g.aw a ?_);simp[cv.E,a2.E]
abbrev GV:bL:=kg c8 o9 (jz cv) (λb d a=>bh (ff b a d.1).isSome) λ_ _ a=>[c a.2<=4000000,∀e∈a.2,c e.2<=4000000]
def adC:bM r 96 GV:=.cZ λb d e a=>UD b d e a.1 a.2
def qb{ae:α->Int}{I}{d}(a:e≠0):ka ae I d e=decide (ae (d.getD (e-1) I)<ae (d.getD e I)):=by unfold ka;grind
def Xk(i)(b)(L:lq b)(P:c b.1<=4000000)(ad:c b.2.1<=4000000):Y r 56 [S i,b1 b] [] (bh (hV i b)) []:=by
 refine Y.K func56 rfl λaN=>?_;have p:a8 r [(95,G'),(55,uQ),(27,jI),(96,GV),(59,sP),(97,n7)]:=.cons adT (.cons zj (.cons ku (.cons adC (.cons v9 (.cons MA .nil)))));refine a_ p [(1000002,f)] a v (g.bK 5 3 1 a a ?_);refine b_ p a v ?_;unfold hV;refine g.aL 2 (λe=>e<=c b.1/\(∀m,m<e->nG i b.1 m=f)/\(dg (b.1.take e)).Nodup/\c (dg (b.1.take e))<=4*e) (λe:Nat=>[(0,S i),(3,aG 0 0),(5,.n (.aq (.r 1 1 (c (dg (b.1.take e))) (aA.fn (dg (b.1.take e)))))),(6,S e)]) (λe=>[oM b,.r 3 1 (c (dg (b.1.take e))) (aA.fn (dg (b.1.take e)))]) (λe=>c b.1-e) 0 a EU a EU a ⟨by omega,by omega,by simp[dg],by simp[dg]⟩ ?_;rintro e ⟨K,B,T,Z⟩;by_cases u:e<c b.1
 .have R:=Kx u;have N:=aaF (ab:=b.1) (e:=e+1);have A:b.1.getD e a2.I=b.1.getD e (0,[]):=rfl;have k:b.1.getD (e-1) a2.I=b.1.getD (e-1) (0,[]):=rfl;have s:nG i b.1 e=(h_ i (b.1.getD e (0,[]))&&ka (·.1) (0,[]) b.1 e):=rfl;have W:=qb (ae:=λj:b'=>j.1) (I:=(0,[])) (d:=b.1) (e:=e);generalize z:b.1.getD e (0,[])=j at *;generalize b.1.getD (e-1) (0,[])=w at *;cases q:h_ i j with
  |false=>
   rw[q,sD]at s;refine a_ p [(14,f),(25,f),(44,f)] a PQ (g.aX (bW.zero a ?_));rw[kE u s];simp
  |true=>
   have ag:c j.2<=4:=by grind[DA]
   rw[q,fp]at s;cases C:ka (·.1) (0,[]) b.1 e with
   |false=>
    have x:e≠0:=by rintro rfl;cases C
    have J:¬w.1<j.1:=M;refine a_ p [(14,f),(25,l),(28,f),(42,f),(44,f)] a Ql (g.aX (bW.zero a ?_));rw[kE u (s.trans C)];simp
   |true=>
   rw[C]at s;apply g.cg [(0,S i),(3,aG 0 0),(5,.n (.aq (.r 1 1 (c (dg (b.1.take e))) (aA.fn (dg (b.1.take e)))))),(6,S e),(7,S 0)] [oM b,.r 3 1 (c (dg (b.1.take e))) (aA.fn (dg (b.1.take e)))]
   .intro aa;by_cases x:e=0
    .subst x;refine a_ p [(14,f),(25,l),(28,l),(44,l)] a PQ (aa _ _ a ?_);simp
    have J:w.1<j.1:=M;refine a_ p [(14,f),(25,l),(28,f),(42,l),(44,l)] a Ql (aa _ _ a ?_);simp
   generalize dg (b.1.take e)=o at *;refine g.aL 2 (λm=>m<=c j.2/\(o++(j.2.take m).map (·.1)).Nodup) (λm:Nat=>[(0,S i),(3,aG 0 0),(5,.n (.aq (.r 1 1 (c (o++(j.2.take m).map (·.1))) (aA.fn (o++(j.2.take m).map (·.1)))))),(6,S e),(7,S m)]) (λm=>[oM b,.r 3 1 (c (o++(j.2.take m).map (·.1))) (aA.fn (o++(j.2.take m).map (·.1)))]) (λm=>c j.2-m) 0 a E a E a ⟨by omega,by grind⟩ ?_;rintro m ⟨ah,G⟩;by_cases t:m<c j.2
   .have O:j.2.getD m bG.I=d9 j m:=rfl;have cL:o++(j.2.take (m+1)).map (·.1)=(o++(j.2.take m).map (·.1))++[(d9 j m).1]:=ig;have V:c (o++(j.2.take m).map (·.1))=c o+m:=M;generalize o++(j.2.take m).map (·.1)=D at *;cases Q:D.contains (d9 j m).1 with
    |true=>
     refine a_ p [(53,f),(67,f)] a ?_ (g.aX (g.dK (bW.zero a ?_)))
     .simp[-al,-List.contains_eq_mem,A,O,u,t,Q,aA.E,aA.U]
     .have bB:¬(dg b.1).Nodup:=N (by
       have ai:o++j.2.map (·.1)=(o++(j.2.take (m+1)).map (·.1))++(j.2.drop (m+1)).map (·.1):=E
       grind)
      simp[bB]
    |false=>
     have H:=aA.a0 D (d9 j m).1;have X:aA.af (c o+m) (aA.fn D)=D:=by rw[<-V];exact aA.E D
     refine a_ p [(53,f),(67,l)] a ?_ (g.aA (m+1) a ?_ ?_ ⟨t,?_⟩ y)
     .simp[-al,-List.contains_eq_mem,A,O,u,t,Q,aA.E,aA.U,V,X,a7,show ec.bytes=8 from a];omega
     .exact Pu
     .exact Pu
     grind
   obtain rfl:m=c j.2:=y;rw[c9]at G⊢;refine a_ p [(53,l)] a ?_ (g.aC ?_)
   .simp[-al,A,u]
   refine b_ p a bK (g.aA (e+1) a ?_ ?_ ⟨u,iG B s,by grind,by grind⟩ y)
   .rw[R];simp
   rw[R];simp
 obtain rfl:e=c b.1:=y;rw[c9]at T⊢;refine a_ p [(14,l)] a E (g.aC ?_);refine b_ p a v ?_;rw[f'.2 B,fm T,fp,fp];generalize dg b.1=o;refine g.aL 2 (λe=>e<=c b.2.1/\(∀m,m<e->lr i b m=f)) (λe:Nat=>[(0,S i),(3,aG 0 0),(8,S e)]) (λ_=>[oM b,.r 3 1 (c o) (aA.fn o)]) (λe=>c b.2.1-e) 0 a E a E a ⟨by omega,by omega⟩ ?_;rintro e ⟨K,B⟩;by_cases u:e<c b.2.1
 .have A:b.2.1.getD e bj.I=b.2.1.getD e (0,[]):=rfl;have k:b.2.1.getD (e-1) bj.I=b.2.1.getD (e-1) (0,[]):=rfl;have bc:=L _ (om (I:=(0,[])) u);have s:lr i b e=(decide (1<=(b.2.1.getD e (0,[])).1/\(b.2.1.getD e (0,[])).1<=20)&&ka (·.1) (0,[]) b.2.1 e&&(ff i (b.2.1.getD e (0,[])) b.1).isSome):=rfl;have W:=qb (ae:=λj:eF=>j.1) (I:=(0,[])) (d:=b.2.1) (e:=e);generalize z:b.2.1.getD e (0,[])=j at *;generalize b.2.1.getD (e-1) (0,[])=w at *;by_cases g1:1<=j.1/\j.1<=20
  rotate_left
  .refine a_ p [(85,f),(96,f),(116,f),(126,f)] a ?_ (g.aX (bW.zero a ?_))
   .simp[-al,A,u];omega
   exact j2
  cases C:ka (·.1) (0,[]) b.2.1 e with
  |false=>
   have x:e≠0:=by rintro rfl;cases C
   have J:¬w.1<j.1:=M;refine a_ p [(85,f),(96,l),(99,f),(113,f),(116,f),(126,f)] a ?_ (g.aX (bW.zero a ?_))
   .simp[-al,A,k,u,g1,a7];omega
   exact j2
  |true=>
   rw[fm g1,C,fp,fp]at s;cases t:(ff i j b.1).isSome with
   |false=>
    by_cases x:e=0
    .subst x;refine a_ p [(85,f),(96,l),(99,l),(116,l),(126,f)] a ?_ (g.aX (bW.zero a ?_))
     .simp[-al,A,u,g1,cv.E,cv.U,a2.E,a2.U,bj.U,a1.U,t,bc.1];grind
     rw[kE u (s.trans t)];simp
    have J:w.1<j.1:=M;refine a_ p [(85,f),(96,l),(99,f),(113,l),(116,l),(126,f)] a PD (g.aX (bW.zero a ?_));rw[kE u (s.trans t)];simp
   |true=>
    rw[t]at s;by_cases x:e=0
    .subst x;refine a_ p [(85,f),(96,l),(99,l),(116,l),(126,l)] a ?_ (g.aA 1 a E E ⟨u,iG B s⟩ y);simp[-al,A,u,g1,a7,cv.E,cv.U,a2.E,a2.U,bj.U,a1.U,t,bc.1];grind
    have J:w.1<j.1:=M;refine a_ p [(85,f),(96,l),(99,f),(113,l),(116,l),(126,l)] a ?_ (g.aA (e+1) a E E ⟨u,iG B s⟩ y);exact PD
 obtain rfl:e=c b.2.1:=y;refine a_ p [(85,l)] a E (g.aC ?_);rw[f'.2 B,fp];cases bU:cK i
 .exact a_ p [(129,l),(134,l)] a j3 (g.aw a)
 cases F:g8 b.2.2
 .exact a_ p [(129,f),(134,l)] a ND (g.aw a)
 exact a_ p [(129,f),(134,f)] a ND (g.aw a bV)
abbrev Bx:bL:=en c8 o9 (λb a=>bh (hV b a)) λ_ a=>[lq a,c a.1<=4000000,c a.2.1<=4000000]
def MJ:bM r 56 Bx:=.bm λb d a=>Xk b d a.1 a.2.1 a.2.2
def gg(d:Int)(a:m Int×Bool)(b:Int):m Int×Bool:=
 if a.2=f then(if b=d then a else(a.1++[b],f))else if d<=b then(if b=d then(a.1++[d],f)else(a.1++[d,b],f))else(a.1++[b],l)
abbrev fu(d:Int)(b:m Int)(a:Nat):m Int×Bool:=(b.take a).foldl (gg d) ([],l)
def e6(b:m Int)(a:Int):m Int:=if(b.foldl (gg a) ([],l)).2=f then(b.foldl (gg a) ([],l)).1 else(b.foldl (gg a) ([],l)).1++[a]
def w9{k}{d}(a:e<c d):fu k d (e+1)=gg k (fu k d e) (d.getD e 0):=ig
def w8(k)(d):∀a,a<=c d->(fu k d a).1.length+(if(fu k d a).2=f then 0 else 1)<=a+1
 |0,_=>by simp[fu]
 |a+1,g=>by have:=w8 k d a y;rw[w9 y];generalize fu k d a=b at *;obtain⟨b,e⟩:=b;unfold gg;grind
theorem Z5(d)(k):c (e6 d k)<=c d+1:=by
 have:=w8 k d (c d) (bC _);simp[fu,c9]at this;unfold e6;split at this<;>rename_i a
 .grind
 grind
def ae6{e:Type}(a:cZ e)(d)(o X):bt (c d+1+1) (ce (c d+1) (ce (c d) (a.fn d) λb=>[a.a8 o].getD b []) λb=>[a.a8 X].getD b []) (a.fn (d++[o,X])):=a.eZ d o X
def Ts(d)(k)(B:c d<=100000000):Y r 94 [aA.S d,S k] [] (aA.S (e6 d k)) []:=by
 refine Y.K func94 rfl λA=>?_;refine a6 [(1000002,f)] a v (g.bK 5 3 1 a a ?_);refine aZ a v (g.aL 1 (λb=>b<=c d) (λb:Nat=>[(0,aA.S d),(1,S k),(5,.n (.aq (.r 0 1 (fu k d b).1.length (aA.fn (fu k d b).1)))),(6,bh (fu k d b).2),(7,S b)]) (λb=>[.r 3 1 (fu k d b).1.length (aA.fn (fu k d b).1)]) (λb=>c d-b) 0 a NE a NE a y ?_);intro b q;have w:=w8 k d b q;by_cases j:b<c d
 .have s:=w9 (k:=k) j;have I:d.getD (b:Int).toNat aA.I=d.getD b 0:=dA;generalize d.getD b 0=X at *;generalize fu k d b=e at *;obtain⟨e,o⟩:=e;have ae:=λX=>aA.a0 e X;have t:=λx X=>aA.eZ e x X;have z:(c e+1+1)*8<=140737488355328:=M;have fin:∀p,fu k d (b+1)=p->True:=λ_ _=>trivial;have m:c d-(b+1)<c d-b:=y;by_cases i:X=k
  .cases o with
   |true=>
    rw[show gg k (e,f) X=(e,f) by simp[gg,i]]at s;refine a6 [(12,f),(34,l)] a ?_ (g.aA (b+1) a ?_ ?_ j m)
    .simp only[U,I,i,a7];simp;omega
    .rw[s];simp
    rw[s];simp
   |false=>
    rw[show gg k (e,l) X=(e++[k],f) by simp[gg,i]]at s;refine a6 [(12,f),(24,f),(34,l)] a ?_ (g.aA (b+1) a ?_ ?_ j m)
    .simp only[U,I,i,a7,show ec.bytes=8 from a];simp;omega
    .exact PK
    exact PK
  cases o with
  |true=>
   rw[show gg k (e,f) X=(e++[X],f) by simp[gg,i]]at s;refine a6 [(12,f),(34,f)] a OI (g.aA (b+1) a zO ?_ j m);exact zO
  |false=>
   by_cases u:k<=X
   .rw[show gg k (e,l) X=(e++[k,X],f) by simp[gg,i,u]]at s;refine a6 [(12,f),(24,f),(34,f)] a ?_ (g.aA (b+1) a ?_ ?_ j m)
    .simp only[U,I,a7,show ec.bytes=8 from a];simp[i,u];omega
    .exact N1
    exact N1
   rw[show gg k (e,l) X=(e++[X],l) by simp[gg,u]]at s;refine a6 [(12,f),(24,l),(34,f)] a OI (g.aA (b+1) a zO ?_ j m);exact zO
 obtain rfl:b=c d:=y;unfold e6;simp[fu,c9]at w⊢;generalize d.foldl (gg k) ([],l)=e at *;obtain⟨e,o⟩:=e;have ae:=aA.a0 e k;refine a6 [(12,l)] a E (g.aC ?_);cases o with
 |true=>exact aZ rfl E (g.aw rfl)
 |false=>
  refine aZ a ?_ (g.aw a ?_)
  .simp only[U,show ec.bytes=8 from a];simp at w⊢;omega
  simp[U,j9,dh,dn,gW];and_intros<;>first|exact ae|trivial
abbrev xq:bL:=en (e0 aA) c8 (λa b=>aA.S (e6 a b)) λa _=>[c a<=100000000]
def El:bM r 94 xq:=.bm λb d a=>Ts b d a
theorem qu(b):∀a:m Int,c (a.foldl e6 b)<=c b+c a
 |[]=>by simp
 |d::a=>by have:=qu (e6 b d) a;grind[Z5]
def yf{a:Type}(b:a->Int->a)(e:a){d}(g:w<c d):(d.take (w+1)).foldl b e=b ((d.take w).foldl b e) (d.getD w 0):=ig
def gG(a:m m2):m Int:=(d_ a).foldl e6 []
theorem tp(d):c (gG d)<=c (d_ d):=by
 have:=qu [] (d_ d)
 rwa [gA,cV]at this
def W8(b)(I:c b.2<=4000000)(F:c (d_ b.2)<=4000000):Y r 93 [iM b] [] (aA.S (gG b.2)) []:=by
 refine Y.K func93 rfl λB=>?_;have j:a8 r [(94,xq)]:=.cons El .nil;refine b_ j a v (g.aL 1 (λe=>e<=c b.2) (λe:Nat=>[(1,aG 0 0),(3,aA.S (gG (b.2.take e))),(4,S e)]) (λ_=>[zc b]) (λe=>c b.2-e) 0 a (by simp[gG,d_]) a E a y ?_);intro e x;by_cases u:e<c b.2
 .have d:b.2.getD e cv.I=b.2.getD e ([],[]):=rfl;have p:=Ku u;have z:=Kv b.2 (e+1);have D:=tp (b.2.take e);have A:gG (b.2.take (e+1))=(b.2.getD e ([],[])).2.foldl e6 (gG (b.2.take e)):=by simp[gG,p,uy]
  rw[p,dn]at z;generalize b.2.getD e ([],[])=k at *;generalize gG (b.2.take e)=m at *;refine a_ j [(11,f)] a gV (g.aL 1 (λi=>i<=c k.2) (λi:Nat=>[(1,aG 0 0),(3,aA.S ((k.2.take i).foldl e6 m)),(4,S e),(5,S i)]) (λ_=>[zc b]) (λi=>c k.2-i) 0 a E a E a y ?_);intro i C;by_cases o:i<c k.2
  .have s:k.2.getD i aA.I=k.2.getD i 0:=rfl;have t:=yf e6 m o;have w:=qu m (k.2.take i);rw[List.length_take]at w;generalize(k.2.take i).foldl e6 m=ja at *;have q:=aA.E ja;refine a_ j [(22,f)] a ?_ (g.aA (i+1) a ?_ ?_ o y)
   .simp[-al,d,s,u,o,q,aA.U,a7];omega
   .rw[t];simp[-al,d,s,q]
   simp
  obtain rfl:i=c k.2:=y;rw[c9,<-A];refine a_ j [(22,l)] a dA (g.aC ?_);exact P0
 obtain rfl:e=c b.2:=y;rw[c9];refine a_ j [(11,l)] a E (g.aC ?_);exact b_ j a v (g.aw a)
abbrev Br:bL:=df (jz cv) (λa=>aA.S (gG a.2)) λa=>[c a.2<=4000000,c (d_ a.2)<=4000000]
def MC:bM r 93 Br:=.ba λb a=>W8 b a.1 a.2
def hh(a:m eF):m Int:=a.flatMap λb=>d_ b.2
def h8(b:m eF):m Int:=b.foldl (λa d=>(gG d.2).foldl e6 a) []
theorem AI{d}(a:e<c d):hh (d.take (e+1))=hh (d.take e)++d_ (d.getD e (0,[])).2:=by rw[ie a (0,[])];simp[hh]
def F_(d)(e):c (hh (d.take e))<=c (hh d):=by
 have a:hh d=hh (d.take e)++hh (d.drop e):=by unfold hh;grind[List.take_append_drop]
 grind
theorem Ki{d}(a:e<c d):h8 (d.take (e+1))=(gG (d.getD e (0,[])).2).foldl e6 (h8 (d.take e)):=by unfold h8;grind[ie]
def yB(d):∀a,a<=c d->c (h8 (d.take a))<=c (hh (d.take a))
 |0,_=>by simp[h8]
 |a+1,e=>by have b:=yB d a y;grind[qu,tp,Ki,AI]
def V0(b)(q:lq b)(N:c b.2.1<=4000000)(O:c (hh b.2.1)<=4000000):Y r 54 [b1 b] [] (aA.S (h8 b.2.1)) []:=by
 refine Y.K func54 rfl λJ=>?_;have j:a8 r [(94,xq),(93,Br)]:=.cons El (.cons MC .nil);refine b_ j a v (g.aL 1 (λe=>e<=c b.2.1) (λe:Nat=>[(1,aG 0 0),(3,aA.S (h8 (b.2.1.take e))),(4,S e)]) (λ_=>[oM b]) (λe=>c b.2.1-e) 0 a (by simp[h8]) a E a y ?_);intro e o;by_cases u:e<c b.2.1
 .have t:b.2.1.getD e bj.I=b.2.1.getD e (0,[]):=rfl;have D:=q _ (om (I:=(0,[])) u);have x:=AI u;have C:=F_ b.2.1 (e+1);have M:=yB b.2.1 e o;have q:=Ki u;rw[x,dn]at C;generalize b.2.1.getD e (0,[])=k at *;have F:=tp k.2;generalize h8 (b.2.1.take e)=m at *;refine a_ j [(12,f)] a ?_ ?_
  .simp[-al,u,t,cv.E,cv.U];omega
  have z:b.2.1.getD (e:Int).toNat bj.I=k:=by rw[c5];exact t
  rw[z,cv.E];refine g.aL 1 (λd=>d<=c (gG k.2)) (λd:Nat=>[(1,aG 0 0),(3,aA.S (((gG k.2).take d).foldl e6 m)),(4,S e),(5,aA.S (gG k.2)),(6,S d)]) (λ_=>[oM b]) (λd=>c (gG k.2)-d) 0 a E a E a y ?_;intro d K;generalize gG k.2=i at *;by_cases p:d<c i
  .have s:i.getD d aA.I=i.getD d 0:=rfl;have A:=yf e6 m p;have B:=qu m (i.take d);rw[List.length_take]at B;generalize(i.take d).foldl e6 m=ja at *;have w:=aA.E ja;refine a_ j [(24,f)] a ?_ (g.aA (d+1) a ?_ ?_ p y)
   .simp[-al,s,p,w,aA.U,a7];omega
   .rw[A];simp[-al,s,w]
   simp
  obtain rfl:d=c i:=y;rw[c9,<-q];refine a_ j [(24,l)] a E (g.aC ?_);exact P0
 obtain rfl:e=c b.2.1:=y;rw[c9];refine a_ j [(12,l)] a E (g.aC ?_);exact b_ j a v (g.aw a)
abbrev Bq:bL:=df o9 (λa=>aA.S (h8 a.2.1)) λa=>[lq a,c a.2.1<=4000000,c (hh a.2.1)<=4000000]
def MB:bM r 54 Bq:=.ba λb a=>V0 b a.1 a.2.1 a.2.2
abbrev dT:=cq×m Int×m Int
abbrev eT:=Int×dT×(Int×Int×Int×bE)×m (Int×Int)×m Int
abbrev XX:rf cq:=x_ (u7 a2) (x_ (u7 bj) (u7 a1))
abbrev Cw:rf dT:=x_ XX (x_ (u7 aA) (u7 aA))
abbrev cI(a:cZ α)(b:m α):O:=.c (.S l a.bj (c b) (a.fn b))
abbrev v6(a:dT):m O:=[cI a2 a.1.1,cI bj a.1.2.1,cI a1 a.1.2.2,cI aA a.2.1,cI aA a.2.2]
abbrev fQ(a:dT):z:=.n (.agg (v6 a))
abbrev lx(a:eT):m O:=.c (.int .i64 a.1)::(v6 a.2.1++[.c (.int .i64 a.2.2.1.1),.c (.int .i64 a.2.2.1.2.1),.c (.int .i64 a.2.2.1.2.2.1),.c (.V a.2.2.1.2.2.2),cI a1 a.2.2.2.1,cI aA a.2.2.2.2])
abbrev fq(a:eT):z:=.n (.agg (lx a))
structure pZ(b:cq):Prop where
 fO:c b.1<=4000000
 dX:lq b
 fa:c b.2.1<=4000000
 ey:c (hh b.2.1)<=4000000
def nz(a:m b')(d:m Int)(b:Nat):Bool:=(a.any λe=>e.1==d.getD b 0)&&ka (λg=>g) 0 d b
def ha(b:Int)(a:dT):Bool:=(h8 a.1.2.1).all (λd=>a.2.1.contains d)&&(aC (c a.2.2)).all (nz a.1.1 a.2.2)&&hV b a.1
def RX{d}{a:Int->Bool}:d.all a=(aC (c d)).all λb=>a (d.getD b 0):=by rw[o5,f',List.all_eq_true];grind[List.mem_iff_getElem]
def R3{d}{R:b'->Bool}(a:w<c d):(d.take (w+1)).any R=((d.take w).any R||R (d.getD w (0,[]))):=ig
abbrev gh(a:dT):an:=.cells 30 (v6 a)
def Xs(i)(b)(p:pZ b.1):Y r 28 [S i,fQ b] [] (bh (ha i b)) []:=by
 refine Y.K func28 rfl λJ=>?_;have o:a8 r [(54,Bq),(55,uQ),(56,Bx)]:=.cons MB (.cons zj (.cons MJ .nil));have N:=J.fZ 1 a 4 a;have K:=yB b.1.2.1 _ (bC _);rw[c9]at K;have X:=p.ey;refine b_ o a ?_ ?_
 .simp[a2.E,a2.U,bj.E,bj.U,a1.E,a1.U,p.dX,p.fa,p.ey]
 rw[bj.E];unfold ha;rw[RX];generalize h8 b.1.2.1=m at *;refine g.aL 1 (λe=>e<=c m/\∀k,k<e->b.2.1.contains (m.getD k 0)=f) (λe:Nat=>[(0,S i),(3,aG 0 0),(5,aA.S m),(6,S e)]) (λ_=>[gh b]) (λe=>c m-e) 0 a E a E a ⟨by omega,by omega⟩ ?_;rintro e ⟨A,q⟩;by_cases u:e<c m
 .have t:m.getD e aA.I=m.getD e 0:=rfl;cases x:b.2.1.contains (m.getD e 0)with
  |false=>
   refine a_ o [(16,f),(26,f)] a ?_ (g.aX (bW.zero a ?_))
   .simp[-al,-List.contains_eq_mem,t,u,x,aA.E,aA.U]
   rw[kE u x];simp
  |true=>
   refine a_ o [(16,f),(26,l)] a ?_ (g.aA (e+1) a E E ⟨u,iG q x⟩ y);simp[-al,-List.contains_eq_mem,t,u,x,aA.E,aA.U,a7];omega
 obtain rfl:e=c m:=y;rw[f'.2 q,fp];refine a_ o [(16,l)] a E (g.aC ?_);refine b_ o a v (g.aL 1 (λe=>e<=c b.2.2/\∀k,k<e->nz b.1.1 b.2.2 k=f) (λe:Nat=>[(0,S i),(3,aG 0 0),(7,S e)]) (λ_=>[gh b]) (λe=>c b.2.2-e) 0 a E a E a ⟨by omega,by omega⟩ ?_);rintro e ⟨A,q⟩;by_cases u:e<c b.2.2
 .have t:b.2.2.getD e aA.I=b.2.2.getD e 0:=rfl;have bc:b.2.2.getD (e-1) aA.I=b.2.2.getD (e-1) 0:=rfl;have B:nz b.1.1 b.2.2 e=((b.1.1.any λR=>R.1==b.2.2.getD e 0)&&ka (λD=>D) 0 b.2.2 e):=rfl;have O:=qb (ae:=λD:Int=>D) (I:=0) (d:=b.2.2) (e:=e);generalize b.2.2.getD e 0=s at *;generalize b.2.2.getD (e-1) 0=C at *;refine a_ o [(31,f)] a gV (g.aL 1 (λk=>k<=c b.1.1) (λk:Nat=>[(0,S i),(3,aG 0 0),(7,S e),(8,bh ((b.1.1.take k).any λR=>R.1==s)),(9,S k)]) (λ_=>[gh b]) (λk=>c b.1.1-k) 0 a E a E a y ?_);intro k G;by_cases w:k<c b.1.1
  .have V:=p.fO;have z:b.1.1.getD k a2.I=b.1.1.getD k (0,[]):=rfl;have W:=R3 (R:=λR=>R.1==s) w;generalize b.1.1.getD k (0,[])=R at *;generalize(b.1.1.take k).any (λR=>R.1==s)=j at *;cases j with
   |true=>
    refine a_ o [(39,f)] a ?_ (g.aA (k+1) a ?_ ?_ w y)
    .simp[w,a7];omega
    .exact bK
    simp
   |false=>
    refine a_ o [(39,f)] a ?_ (g.aA (k+1) a ?_ ?_ w y)
    .simp[-al,u,w,a7];omega
    .exact bK
    simp
  obtain rfl:k=c b.1.1:=y;rw[c9];refine a_ o [(39,l)] a E (g.aC ?_);cases F:b.1.1.any (λR=>R.1==s)with
  |false=>
   rw[F,sD]at B;refine a_ o [(77,f)] a E (g.aX (bW.zero a ?_));rw[kE u B];simp
  |true=>
   rw[F,fp]at B;by_cases Q:e=0
   .subst Q;refine a_ o [(63,l),(77,l)] a ?_ (g.aA 1 a E E ⟨u,iG q bK⟩ y);simp[a7]
   by_cases T:C<s
   .refine a_ o [(63,f),(75,l),(77,l)] a ?_ (g.aA (e+1) a E E ⟨u,iG q M⟩ y);exact Pj
   refine a_ o [(63,f),(75,f),(77,f)] a Pj (g.aX (bW.zero a ?_));exact j2
 obtain rfl:e=c b.2.2:=y;rw[f'.2 q,fp];refine a_ o [(31,l)] a E (g.aC ?_);refine b_ o a ?_ (g.aw a ?_)
 .simp[a2.E,a2.U,bj.E,bj.U,a1.E,a1.U,p.dX,p.fa,p.fO]
 simp[a2.E,bj.E,a1.E]
abbrev By:bL:=en c8 (An Cw) (λb a=>bh (ha b a)) λ_ a=>[pZ a.1]
def ML:bM r 28 By:=.bm λb d a=>Xs b d a
theorem aaf{b a}(e:d6 b=f)(g:∀d∈a,d∈b):d6 a=f:=by unfold d6 at e⊢;grind
def K_{q}(g:d6 q=f):∀e a,∀d∈jT q e a,cC d=f
 |0,_,d,b=>by exact bK
 |e+1,a,d,b=>by
  simp only[jT]at b;split at b
  .rename_i i;have j:=sS q a i;rcases fo.1 b with rfl|b
   .have s:c ((q.drop a).take (eC q a-a))=eC q a-a:=M;simp[cC,cE,bA];grind[aaf]
   exact K_ g e _ d b
  grind
def vH{q}(a:d6 q=f):∀b∈cy q,cC b=f:=K_ a _ _
def K9(q):∀a b,c (jT q a b)<=a
 |0,_=>bC _
 |a+1,b=>by
  simp[jT];split
  .have:=K9 q a (eC q b);grind
  simp
theorem vG(q):c (cy q)<=c q:=K9 q _ _
def eM(b:m c'):m bE:=b.flatMap λa=>cy a.2
def Gb{q}(a:e<c q):eM (q.take (e+1))=eM (q.take e)++cy (q.getD e ([],[])).2:=by rw[ie a ([],[])];simp[eM]
def Ga(q)(e):c (eM (q.take e))<=c (eM q):=by
 have a:eM q=eM (q.take e)++eM (q.drop e):=by unfold eM;grind[List.take_append_drop]
 grind
def CK(i)(d)(ab):∀a:m bE,c (ab.foldl (fe i d) a)<=c a+c ab:=by
 induction ab with
 |nil=>grind
 |cons b k e=>
  intro a;have g:=e (fe i d a b);have j:c (fe i d a b)<=c a+1:=by unfold fe;split<;>simp
  grind
abbrev GU:bL:=en (e0 e1) c8 (λa b=>S (lg a b)) λa _=>[c a<=4000000]
def adA:bM r 181 GU:=.bm λb d a=>Ut b d a
abbrev GY:bL:=en (e0 bR) eB (λa b=>bh (a.contains b)) λa _=>[c a<=4000000]
def adG:bM r 182 GY:=.bm λb d a=>U3 b d a
abbrev H9(a:m bE):z:=.n (.aq (.r 0 1 (c a) (bR.fn a)))
structure rg(q:m c'):Prop where
 len:c q<=4000000
 fl:∀ae∈q,d6 ae.2=f/\c ae.2<=4000000
 all:c (eM q)<=100000
def Wa(i)(q)(d)(p:cK i=f)(u:rg q)(T:c d<=4000000):Y r 148 [S i,bD.S q,e1.S d] [] (bR.S (gu i q d)) []:=by
 refine Y.K func148 rfl λO=>?_;have m:a8 r [(180,xr),(177,xy),(181,GU),(182,GY)]:=.cons Em (.cons zk (.cons adA (.cons adG .nil)));refine bf m [(1000002,f)] a v (g.bK 7 9 1 a a ?_);refine cJ m a v (g.aL 1 (λb=>b<=c q) (λb:Nat=>[(0,S i),(1,bD.S q),(2,e1.S d),(7,H9 ((eM (q.take b)).foldl (fe i d) [])),(8,S b)]) (λb=>[.r 9 1 (c ((eM (q.take b)).foldl (fe i d) [])) (bR.fn ((eM (q.take b)).foldl (fe i d) []))]) (λb=>c q-b) 0 a ?_ a ?_ a y ?_)
 .simp[eM]
 .simp[eM]
 intro b C;by_cases B:b<c q
 .have Q:q.getD (b:Int).toNat bD.I=q.getD b ([],[]):=M;have A:q.getD b ([],[])∈q:=M;obtain⟨R,J⟩:=u.fl _ A;have D:=Gb B;have K:=Ga q (b+1);have V:=u.all;have W:=u.len;have I:=vH R;generalize q.getD b ([],[])=k at *;rw[D,dn]at K;refine bf m [(15,f)] a dA ?_;rw[Q];refine g.aL 1 (λe=>e<=c (cy k.2)) (λe:Nat=>[(0,S i),(1,bD.S q),(2,e1.S d),(7,H9 ((eM (q.take b)++(cy k.2).take e).foldl (fe i d) [])),(8,S b),(9,bR.S (cy k.2)),(10,S e)]) (λe=>[.r 9 1 (c ((eM (q.take b)++(cy k.2).take e).foldl (fe i d) [])) (bR.fn ((eM (q.take b)++(cy k.2).take e).foldl (fe i d) []))]) (λe=>c (cy k.2)-e) 0 a E a E a y ?_;intro e z;have F:=CK i d (eM (q.take b)++(cy k.2).take e) [];simp only[gA,dn,List.length_take]at F;by_cases N:e<c (cy k.2)
  .have j:(cy k.2).getD (e:Int).toNat bR.I=(cy k.2).getD e []:=M;have s:cC ((cy k.2).getD e [])=f:=I _ M;have o:(eM (q.take b)++(cy k.2).take (e+1)).foldl (fe i d) []=fe i d ((eM (q.take b)++(cy k.2).take e).foldl (fe i d) []) ((cy k.2).getD e []):=ig;generalize(eM (q.take b)++(cy k.2).take e).foldl (fe i d) []=du at *;generalize(cy k.2).getD e []=w at *;have x:=bR.a0 du w;by_cases t:lg d (e7 i w)=0
   .cases aa:du.contains w with
    |true=>
     rw[fe,bm M]at o;refine bf m [(27,f),(38,f),(45,f)] a ?_ (g.aA (e+1) a ?_ ?_ ?_ ?_)
     .simp only[U,j,p,s,t,aa,a7,bR.E,e1.E,fZ,bA,ba,a9];exact Qo
     .rw[o];simp
     .rw[o];simp
     .grind
     omega
    |false=>
     rw[fe,br M]at o;refine bf m [(27,f),(38,f),(45,l)] a ?_ (g.aA (e+1) a ?_ ?_ ?_ ?_)
     .simp only[U,j,p,s,t,aa,a7,show s_.bytes=16 from a,bR.E,e1.E,fZ,bA,ba,a9];exact Qo
     .rw[o];simp only[U.Y,U,j,dn,fl,gA,ba,a9];and_intros<;>first|exactλ_ _=>rfl|exact x|rfl|omega
     .rw[o];simp only[U.Y,U,j,dn,fl,gA,ba,a9];and_intros<;>first|exact x|rfl|omega
     .grind
     omega
   rw[fe,bm M]at o;refine bf m [(27,f),(38,l)] a ?_ (g.aA (e+1) a ?_ ?_ ?_ ?_)
   .simp only[U,j,p,s,a7,e1.E,eX,dZ,t,qa,bA,ba,a9];and_intros<;>first|exact e1.U _|omega
   .rw[o];simp
   .rw[o];simp
   .grind
   omega
  have X:e=c (cy k.2):=y;refine bf m [(27,l)] a bw (g.aC ?_);exact cJ m a bK (g.aA (b+1) a dA dA M y)
 obtain rfl:b=c q:=y;rw[c9];refine bf m [(15,l)] a E (g.aC ?_);refine cJ m a v (g.aw a ?_);simp[gu,eM]
abbrev ko(b:Int)(a:m bE):m Int:=a.map (e7 b)
abbrev oy(a:Int)(b:m c'):m m2:=b.map (ox a)
abbrev KH(b:Int)(a:m m2):m an:=[.cells 74 [.c (.int .i64 0),.c (.S f 0 0 λ_=>[])],.cells 74 [.c (.int .i64 b),.r 2 2 (c a) (cv.fn a)],.r 105 2 (c a) (cv.fn a)]
def Wh(bS i)(q)(o:cK i=f)(u:rg q):Y r 151 [S bS,S i,bD.S q] [] (iM (gS bS i q)) []:=by
 refine Y.bl bd func151 rfl rfl rfl λT=>?_;have k:a8 r [(180,xr),(177,xy)]:=.cons Em (.cons zk .nil);refine bf k [(1000002,f)] a v (g.cl 1 1 105 2 (cv.fn []) a a ?_);refine cJ k a v (g.aL 3 (λe=>e<=c q) (λe:Nat=>[(1,S i),(2,bD.S q),(6,aG 0 0),(7,aG 1 0),(8,S e)]) (λe=>KH bS (oy i (q.take e))) (λe=>c q-e) 0 a E a E a y ?_);intro e A;by_cases K:e<c q
 .have t:q.getD (e:Int).toNat bD.I=q.getD e ([],[]):=M;have z:q.getD e ([],[])∈q:=M;obtain⟨I,F⟩:=u.fl _ z;have R:=u.len;have C:=vH I;have Q:=vG (q.getD e ([],[])).2;have p:oy i (q.take (e+1))=oy i (q.take e)++[ox i (q.getD e ([],[]))]:=ig;have O:c (oy i (q.take e))=e:=M;generalize q.getD e ([],[])=b at *;generalize oy i (q.take e)=m at *;refine bf k [(18,f),(1000007,f)] a dA ?_;rw[t];refine g.bK 10 3 1 a a ?_;refine cJ k a v (g.aL 4 (λd=>d<=c (cy b.2)) (λd:Nat=>[(1,S i),(2,bD.S q),(6,aG 0 0),(7,aG 1 0),(8,S e),(9,bR.S (cy b.2)),(10,.n (.aq (.r 3 1 d (aA.fn (ko i ((cy b.2).take d)))))),(11,S d)]) (λd=>KH bS m++[.r 3 1 d (aA.fn (ko i ((cy b.2).take d)))]) (λd=>c (cy b.2)-d) 0 a E a E a y ?_);intro d x;by_cases V:d<c (cy b.2)
  .have j:(cy b.2).getD (d:Int).toNat bR.I=(cy b.2).getD d []:=M;have B:cC ((cy b.2).getD d [])=f:=C _ M;have s:=aA.a0 (ko i ((cy b.2).take d)) (e7 i ((cy b.2).getD d []));rw[show(ko i ((cy b.2).take d)).length=d by grind,show ko i ((cy b.2).take d)++[e7 i ((cy b.2).getD d [])]=ko i ((cy b.2).take (d+1)) by grind[ie]]at s;refine bf k [(31,f)] a ?_ (g.aA (d+1) a ?_ ?_ ?_ ?_)
   .simp only[U,j,o,B,a7,show ec.bytes=8 from a,bA,ba,a9];exact fr
   .exact Pm
   .exact Pm
   .grind
   omega
  have D:d=c (cy b.2):=y;rw[D,c9];have s:=cv.a0 m (ox i b);have w:c m+1=c (m++[ox i b]):=E;have J:cv.a8 (ox i b)=[N.V b.1,N.S l 1 (c (cy b.2)) (aA.fn (ko i (cy b.2)))]:=by show[N.V b.1,N.S l 1 (c (ko i (cy b.2))) (aA.fn (ko i (cy b.2)))]=_;grind
  rw[J,<-p]at s;rw[<-p]at w;refine bf k [(31,l)] a E (g.aC ?_);refine cJ k a PE (g.aA (e+1) a E ?_ ?_ ?_)
  .simp only[U.Y,U,t,ba,a9];and_intros<;>first|exact bt.same|exact s|exact w|rfl
  .grind
  omega
 obtain rfl:e=c q:=y;rw[c9];refine bf k [(18,l)] a E (g.aC ?_);refine cJ k a v (g.bh () [] ?_ (λd x=>absurd x E));simp[gS]
def o_(b a:Nat->m N):ce 0 b a=a:=by funext e;simp[ce]
abbrev jV(a:cq):an:=.cells 27 [.c (.S l 2 (c a.1) (a2.fn a.1)),.c (.S l 2 (c a.2.1) (bj.fn a.2.1)),.c (.S l 2 (c a.2.2) (a1.fn a.2.2))]
abbrev BT(a:cq)(b:Nat)(e:m b')(d:Nat)(g:m eF):m an:=[jV a,.cells 27 [cB,cB,cB],.h 70 2 b (a2.fn e),.h 74 2 d (bj.fn g),.h 101 2 (c a.2.2) (a1.fn a.2.2),.cells 27 [.R 2 (.S b 2 0 b),.R 3 (.S d 2 0 d),.R 4 (.S (c a.2.2) 2 0 (c a.2.2))]]
def T3(b)(z:c b.1<=4000000)(t:∀w∈b.1,c w.2<=4000000)(F:c b.2.1<=4000000)(s:lq b)(D:c b.2.2<=4000000):
  Y r 70 [b1 b] [] (.n (.agg [.R 0 (.S (c b.1) 2 0 (c b.1)),.R 1 (.S (c b.2.1) 2 0 (c b.2.1)),.R 2 (.S (c b.2.2) 2 0 (c b.2.2))])) [.h 70 2 (c b.1) (a2.fn b.1),.h 74 2 (c b.2.1) (bj.fn b.2.1),.h 101 2 (c b.2.2) (a1.fn b.2.2)]:=by
 refine Y.bl bd func70 rfl rfl rfl λB=>?_;refine bQ [(1000001,f)] a v (g.region ?_);refine gJ [] 5 a v (g.dJ 9 70 2 (a2.fn []) a ?_);refine g.dJ 10 74 2 (bj.fn []) a ?_;refine g.dJ 11 101 2 (a1.fn []) a ?_;refine cu a Pk (g.aL 6 (λd=>d<=c b.1) (λd:Nat=>[(1,aG 0 0),(2,aG 1 0),(3,aG 5 0),(4,S d)]) (λd=>BT b d (b.1.take d) 0 []) (λd=>c b.1-d) 0 a E a ?_ a y ?_)
 .simp[bt,o_];rfl
 intro d o;by_cases m:d<c b.1
 .have k:b.1.getD d (0,[])∈b.1:=M;have x:b.1.getD (d:Int).toNat a2.I=b.1.getD d (0,[]):=M;have q:=t _ k;refine bQ [(20,f),(2000038,f)] a EZ (g.aA (d+1) a E ?_ ?_ ?_)
  .have ai:=a2.cT b.1 m (0,[]);exact NS
  .grind
  omega
 obtain rfl:d=c b.1:=y;rw[c9];refine bQ [(20,l)] a E (g.aC ?_);refine cu a v (g.aL 6 (λd=>d<=c b.2.1) (λd:Nat=>[(1,aG 0 0),(2,aG 1 0),(3,aG 5 0),(5,S d)]) (λd=>BT b (c b.1) b.1 d (b.2.1.take d)) (λd=>c b.2.1-d) 0 a E a E a y ?_);intro d o;by_cases m:d<c b.2.1
 .have k:b.2.1.getD d (0,[])∈b.2.1:=M;have x:b.2.1.getD (d:Int).toNat bj.I=b.2.1.getD d (0,[]):=M;have q:=s _ k;have ai:=bj.cT b.2.1 m (0,[]);generalize b.2.1.getD d (0,[])=i at *;refine bQ [(47,f),(1000010,f)] a bw ?_;rw[x];refine g.cl 6 1 105 2 (cv.fn []) a a ?_;refine cu a v (g.aL 8 (λe=>e<=c i.2) (λe:Nat=>[(1,aG 0 0),(2,aG 1 0),(3,aG 5 0),(5,S d),(6,aG 6 0),(7,S e)]) (λe=>BT b (c b.1) b.1 d (b.2.1.take d)++[.cells 74 [.c (.int .i64 i.1),.r 7 2 e (cv.fn (i.2.take e))],.r 105 2 e (cv.fn (i.2.take e))]) (λe=>c i.2-e) 0 a E a E a y ?_);intro e p;by_cases u:e<c i.2
  .have j:i.2.getD (e:Int).toNat cv.I=i.2.getD e ([],[]):=M;have C:=q.2 (i.2.getD e ([],[])) M;have A:=cv.cT i.2 u ([],[]);refine bQ [(66,f),(2000085,f)] a P6 (g.aA (e+1) a E PU M ?_);omega
  obtain rfl:e=c i.2:=y;rw[c9];refine bQ [(66,l)] a Fb (g.aC ?_);refine cu a Fh (g.aA (d+1) a E Fm M ?_);omega
 obtain rfl:d=c b.2.1:=y;rw[c9];refine bQ [(47,l)] a E (g.aC ?_);refine cu a v (g.bh () [2,3,4] ?_ (λe p=>absurd p E));simp
def yC{e j}(A)(k:t.op=.call {callee:=.builtin .max,args:=#[o,X],argTypes:=dp})(u:η o=S e)(r:η X=S j)(x:max e j=A)(s:a7 .i64 A):a0 V t η p (S A) p:=by refine .aZ λz d y g=>?_;have b:=g o;have a:=g X;rw[u]at b;rw[r]at a;replace b:=b7 b;replace a:=b7 a;generalize i:d o=v at b;generalize m:d X=w at a;cases b;cases a;have q:(if e<j then j else e)=A:=M;exact⟨.int .i64 A,by simp[ac,k,resolve,invoke,builtin,i,m,Builtin.max_,Builtin.max2,q],.int s,by simp[ac,k,resolve,invoke,builtin,i,m,Builtin.max_,Builtin.max2]⟩
def dz(a:cq):Int:=if c a.1=0 then 1 else(a.1.getD (c a.1-1) (0,[])).1+1
def lU(b:m (Int×Int)):Int:=b.foldl (λd a=>max d (a.2+1)) 1
def dF(a:cq):Int:=if c a.2.1=0 then lU a.2.2 else max (lU a.2.2) ((a.2.1.getD (c a.2.1-1) (0,[])).1+1)
structure nX(b8:cq):Prop where
 a2:∀o∈b8.1,-4000000<=o.1/\o.1<=4000000
 bc:∀o∈b8.2.1,-4000000<=o.1/\o.1<=4000000
 aN:∀o∈b8.2.2,-4000000<=o.2/\o.2<=4000000
def s8(d)(e:∀b∈d,-4000000<=b.2/\b.2<=4000000):1<=lU d/\lU d<=4000001:=by
 have:∀(d:m (Int×Int)) a,(∀b∈d,-4000000<=b.2/\b.2<=4000000)->1<=a->a<=4000001->1<=d.foldl (λa e=>max a (e.2+1)) a/\d.foldl (λa e=>max a (e.2+1)) a<=4000001:=by
  intro d;induction d with
  |nil=>grind
  |cons b i g=>
   grind
 exact this d 1 e y y
def YA{d}(a:e<c d):lU (d.take (e+1))=max (lU (d.take e)) ((d.getD e (0,0)).2+1):=by unfold lU;grind[ie]
def my{d:m α}(b:e<c d)(a:α):d.getD e a∈d:=M
def Wc(b:cq)(j:dN b)(i:nX b):Y r 147 [b1 b] [] (.Q [.aq (.c (.int .i64 (dz b))),.aq (.c (.int .i64 (dF b)))]) []:=by
 refine Y.K func147 rfl λz=>?_;have u:=j.a2;have w:=j.a7;have t:=j.aN;apply g.cg [(1,aG 0 0),(4,S (dz b)),(5,S 1)] [jV b]
 .intro du;by_cases e:c b.1=0
  .exact bQ [(10,l),(1000005,f)] a dA (du _ _ a (by simp[dz,e]))
  have k:=i.a2 _ (my (show c b.1-1<c b.1 by omega) (0,[]));have x:b.1.getD ((c b.1:Int)-1).toNat a2.I=b.1.getD (c b.1-1) (0,[]):=by rw[show((c b.1:Int)-1).toNat=c b.1-1 by omega];rfl
  exact bQ [(10,f),(1000005,f)] a wz (du _ _ a (by simp only[U.Y,U,dz,bm e,x,ba,a9]))
 refine cu a v (g.aL 1 (λd=>d<=c b.2.2) (λd:Nat=>[(1,aG 0 0),(4,S (dz b)),(5,S (lU (b.2.2.take d))),(6,S d)]) (λd=>[jV b]) (λd=>c b.2.2-d) 0 a ?_ a ?_ a y ?_)
 .simp[lU]
 .simp
 intro d m;by_cases e:d<c b.2.2
 .have k:=i.aN _ (my e (0,0));have p:=s8 (b.2.2.take d) λs q=>i.aN s (hf q);have x:b.2.2.getD (d:Int).toNat a1.I=b.2.2.getD d (0,0):=M;have o:=YA e;refine bQ [(25,f)] a wz ?_;rw[x];refine g.aO (yC (lU (b.2.2.take (d+1))) a a a o.symm nO) a a ?_;exact cu a bK (g.aA (d+1) a E E M y)
 obtain rfl:d=c b.2.2:=y;rw[c9];refine bQ [(25,l)] a E (g.aC ?_);have p:=s8 b.2.2 i.aN;by_cases e:c b.2.1=0
 .refine bQ [(40,l)] a dA (g.aw a ?_);simp[dF,e]
 have k:=i.bc _ (my (show c b.2.1-1<c b.2.1 by omega) (0,[]));have x:b.2.1.getD ((c b.2.1:Int)-1).toNat bj.I=b.2.1.getD (c b.2.1-1) (0,[]):=Q_;refine bQ [(40,f)] a wz ?_;rw[x];refine g.aO (yC (dF b) a a a (by rw[dF,bm e]) (by rw[dF,bm e];simp only[a7];omega)) a a ?_;exact cu a v (g.aw a)
abbrev BU(a:cq)(b:Nat)(e:m b')(d:Nat)(g:m eF):m an:=[jV a,.cells 27 [cB,cB,cB],.r 101 2 (c a.2.2) (a1.fn a.2.2),.cells 27 [.r 4 2 b (a2.fn e),.r 5 2 d (bj.fn g),.r 2 2 (c a.2.2) (a1.fn a.2.2)],.r 70 2 b (a2.fn e),.r 74 2 d (bj.fn g)]
def qq(b)(z:c b.1<=4000000)(t:∀w∈b.1,c w.2<=4000000)(F:c b.2.1<=4000000)(s:lq b)(D:c b.2.2<=4000000):
  Y r 70 [b1 b] [] (.n (.agg [.r 0 2 (c b.1) (a2.fn b.1),.r 1 2 (c b.2.1) (bj.fn b.2.1),.r 2 2 (c b.2.2) (a1.fn b.2.2)])) [.r 70 2 (c b.1) (a2.fn b.1),.r 74 2 (c b.2.1) (bj.fn b.2.1),.r 101 2 (c b.2.2) (a1.fn b.2.2)]:=by
 refine Y.bl bd func70 rfl rfl rfl λB=>?_;refine bQ [(1000002,f)] a ?_ ?_
 .simp only[U,show s9.bytes=16 from a,ba,a9,lD];grind
 refine g.cl 3 0 70 2 (a2.fn []) a a ?_;refine g.cl 3 1 74 2 (bj.fn []) a a ?_;refine cu a v (g.aL 6 (λd=>d<=c b.1) (λd:Nat=>[(1,aG 0 0),(2,aG 1 0),(3,aG 3 0),(4,S d)]) (λd=>BU b d (b.1.take d) 0 []) (λd=>c b.1-d) 0 a E a ?_ a y ?_)
 .simp[bt,o_]
 intro d o;by_cases m:d<c b.1
 .have k:b.1.getD d (0,[])∈b.1:=M;have x:b.1.getD (d:Int).toNat a2.I=b.1.getD d (0,[]):=M;have q:=t _ k;refine bQ [(20,f),(2000038,f)] a EZ (g.aA (d+1) a E ?_ ?_ ?_)
  .have ai:=a2.cT b.1 m (0,[]);simp only[U.Y,U,x,o_,cV,a9,ba];exact Qv
  .grind
  omega
 obtain rfl:d=c b.1:=y;rw[c9];refine bQ [(20,l)] a E (g.aC ?_);refine cu a v (g.aL 6 (λd=>d<=c b.2.1) (λd:Nat=>[(1,aG 0 0),(2,aG 1 0),(3,aG 3 0),(5,S d)]) (λd=>BU b (c b.1) b.1 d (b.2.1.take d)) (λd=>c b.2.1-d) 0 a E a E a y ?_);intro d o;by_cases m:d<c b.2.1
 .have k:b.2.1.getD d (0,[])∈b.2.1:=M;have x:b.2.1.getD (d:Int).toNat bj.I=b.2.1.getD d (0,[]):=M;have q:=s _ k;have ai:=bj.cT b.2.1 m (0,[]);generalize b.2.1.getD d (0,[])=i at *;refine bQ [(47,f),(1000010,f)] a bw ?_;rw[x];refine g.cl 6 1 105 2 (cv.fn []) a a ?_;refine cu a v (g.aL 8 (λe=>e<=c i.2) (λe:Nat=>[(1,aG 0 0),(2,aG 1 0),(3,aG 3 0),(5,S d),(6,aG 6 0),(7,S e)]) (λe=>BU b (c b.1) b.1 d (b.2.1.take d)++[.cells 74 [.c (.int .i64 i.1),.r 7 2 e (cv.fn (i.2.take e))],.r 105 2 e (cv.fn (i.2.take e))]) (λe=>c i.2-e) 0 a E a E a y ?_);intro e p;by_cases u:e<c i.2
  .have j:i.2.getD (e:Int).toNat cv.I=i.2.getD e ([],[]):=M;have C:=q.2 (i.2.getD e ([],[])) M;have A:=cv.cT i.2 u ([],[]);refine bQ [(66,f),(2000085,f)] a P6 (g.aA (e+1) a E PU M ?_);omega
  obtain rfl:e=c i.2:=y;rw[c9];refine bQ [(66,l)] a Fb (g.aC ?_);refine cu a Fh (g.aA (d+1) a E ?_ ?_ ?_)
  .simp only[U.Y,U,a9,ba];exact Qv
  .grind
  omega
 obtain rfl:d=c b.2.1:=y;rw[c9];refine bQ [(47,l)] a E (g.aC ?_);refine cu a v (g.bh () [4,5,2] ?_ (λe p=>absurd p E));simp
def _root_.Go.AM.cZ.hn(a:cZ α)(d)(g:bt k T (a.fn d))(m:k<=c d):a.af k T=d.take k:=by
 apply rm
 .simp[cZ.af];omega
 intro e i j;have b:e<k:=M;simp[cZ.af,g e b,cZ.fn,gr,al,bI (show e<c d by omega),a.inv]
def _root_.Go.AM.cZ.g9(a:cZ α)(d)(g:bt k T (a.fn d)):a.bU k T:=λe b=>by rw[g e b];exact a.U d e (Nat.lt_succ_self e)
def aaz(a b:Nat):min (a:Int) (b:Int)=((min a b:Nat):Int):=M
def ix(d:Int):Nat->Int->m bE->m b'
 |0,_,_=>[]
 |e+1,b,a=>if 0<c a then kP b d (a.take 4)::ix d e (b+1) (a.drop 4)else[]
def pt(a:Int)(b:cq)(d:m c'):m b':=ix a (c (gu a d (e5 b.1))) (dz b) (gu a d (e5 b.1))
def fJ(b:Int)(a:cq)(d:m c'):Bool:=decide (20<c a.1+c (pt b a d))||(decide (99<dz a+c (pt b a d)-1)||(decide (20<dF a)||decide (9<=c a.2.2)))
def hU(d:Int)(a:cq)(b:Int)(e:m c'):cq:=(a.1++pt d a e,a.2.1++[gS (dF a) d e],a.2.2++[(b,dF a)])
theorem KY(i):∀d a b,c (ix i d a b)<=d
 |0,_,_=>bC _
 |d+1,a,b=>by
  simp[ix];split
  .have:=KY i d (a+1) (b.drop 4);grind
  simp
abbrev G7:bL:=kg c8 c8 (e0 bR) (λd b a=>fA (kP d b a)) λ_ b a=>[cK b=f,∀e∈a,cC e=f,c a<=4000000]
def adP:bM r 150 G7:=.cZ λb e d a=>VX b e d a.1 a.2.1 a.2.2
abbrev G_:bL:=kg c8 c8 (e0 bD) (λb a d=>iM (gS b a d)) λ_ a d=>[cK a=f,rg d]
def adS:bM r 151 G_:=.cZ λa d e b=>Wh a d e b.1 b.2
abbrev G9:bL:=kg c8 (e0 bD) (e0 e1) (λa d b=>bR.S (gu a d b)) λa d b=>[cK a=f,rg d,c b<=4000000]
def adR:bM r 148 G9:=.cZ λb e d a=>Wa b e d a.1 a.2.1 a.2.2
def vX{q}{d}(j:rg q):(∀a∈gu i q d,cC a=f)/\c (gu i q d)<=100000:=by
 constructor
 .have:∀(b g:m bE),(∀a∈b,cC a=f)->(∀a∈g,cC a=f)->∀a∈b.foldl (fe i d) g,cC a=f:=by
   intro b;induction b with
   |nil=>grind
   |cons t u o=>
    intro g s r;refine o _ (λa e=>s a (m_ _ e)) λa e=>?_;unfold fe at e;grind
  refine this _ [] (λa e=>?_) E;obtain⟨p,k,e⟩:=List.mem_flatMap.1 e;exact vH (j.fl p k).1 a e
 have:=CK i d (eM q) [];have r:=j.all;unfold gu;simp[gA]at this;exact fG this y
theorem JU{d}(a:c (dQ d)<=100000):c (e5 d)<=100000:=by unfold e5;grind[CL]
abbrev ab4(e b d:Int)(g:cq)(i:m c')(a:m bE):bH:=[(0,S e),(2,S b),(3,bD.S i),(5,aG 0 0),(8,aG 1 0),(10,aG 5 0),(11,S d),(12,S (dF g)),(13,bR.S a)]
abbrev LS(b:cq)(a:m b'):m an:=[jV b,.cells 27 [cB,cB,cB],.r 70 2 (c a) (a2.fn a),.r 74 2 (c b.2.1) (bj.fn b.2.1),.r 101 2 (c b.2.2) (a1.fn b.2.2),.cells 27 [.r 2 2 (c a) (a2.fn a),.r 3 2 (c b.2.1) (bj.fn b.2.1),.r 4 2 (c b.2.2) (a1.fn b.2.2)]]
abbrev MI(a:cq)(b:Bool):z:=.Q [.agg [.c (.S l 2 (c a.1) (a2.fn a.1)),.c (.S l 2 (c a.2.1) (bj.fn a.2.1)),.c (.S l 2 (c a.2.2) (a1.fn a.2.2))],.aq (.c (.bool b))]
def WQ(i)(b)(k)(q)(B:cK i=f)(x:dN b)(I:nX b)(K:rg q)(ak:c (dQ b.1)<=100000):
  Y r 115 [S i,b1 b,S k,bD.S q] [] (MI (if fJ i b q=f then b else hU i b k q) (!fJ i b q)) []:=by
 refine Y.bD func115 rfl rfl rfl λau=>?_;have s:a8 r [(149,GX),(148,G9),(150,G7),(151,G_)]:=.cons adF (.cons adR (.cons adP (.cons adS .nil)));have aN:=x.a2;have P:=x.a7;have av:=x.aN;have ax:=JU ak;refine cJ s a v (g.aF (qq b x.a2 x.bp x.a7 x.bx x.aN) [] a (cJ s a v (g.aF (Wc b x I) [] a (cJ s a bK ?_))));simp[a2.E,e1.E,bD.E];obtain⟨an,az⟩:=vX (i:=i) (d:=e5 b.1) K;have aw:pt i b q=ix i (c (gu i q (e5 b.1))) (dz b) (gu i q (e5 b.1)):=rfl;generalize gu i q (e5 b.1)=C at *;generalize T:pt i b q=e at *;have L:-4000000<=dz b/\dz b<=4000001:=by
  unfold dz;split
  .omega
  rename_i u;exact QK
 have H:c e<=100000:=by grind[KY]
 refine g.cj (S2:=Unit) 0 a a (λ_=>True) (λ_=>[(0,S i),(2,S k),(3,bD.S q),(5,aG 0 0),(8,aG 1 0),(10,aG 5 0),(11,S (dz b+c e)),(12,S (dF b))]) (λ_=>LS b (b.1++e)) 6
  (λo:m bE×m b'=>(∀R∈o.1,cC R=f)/\c o.2+c o.1<=5000000/\c b.1<=c o.2/\∃p,c o.1<=p/\b.1++e=o.2++ix i p (dz b+(c o.2-c b.1:Nat)) o.1) (λo=>ab4 i k (dz b+(c o.2-c b.1:Nat)) b q o.1) (λo=>LS b o.2) (λo=>c o.1) (C,b.1) a ?_ a ?_ a ⟨an,by grind,bC _,c C,bC _,by grind⟩ ?_ ?_
 .simp
 .simp
 .rintro du ⟨bs,ab⟩ ⟨w,O,ae,p,G,A⟩;simp only at w O ae G A;by_cases u:0<c bs
  .obtain⟨p,rfl⟩:∃Z,p=Z+1:=⟨p-1,by omega⟩
   simp[ix,br u]at A;have ad:a7 .i64 ((min (c bs) 4:Nat):Int):=nO;refine bf s [(30,f)] a bw (g.aO (yE ((min (c bs) 4:Nat):Int) a a a (aaz (c bs) 4) ad) a a ?_);have Q:bR.af (bT (c bs) (h ((min (c bs) 4:Nat):Int))-bT 0 n) (fx (bT 0 n) (bR.fn bs))=bs.take 4:=by have E:bT (c bs) (h ((min (c bs) 4:Nat):Int))-bT 0 n=min (c bs) 4:=wF;rw[E,bR.hn bs (λJ t=>by simp[fx,bT]) y];grind
   have X:bR.bU (bT (c bs) (h ((min (c bs) 4:Nat):Int))-bT 0 n) (fx (bT 0 n) (bR.fn bs)):=bR.g9 bs (λJ t=>by simp[fx,bT]);have ao:bt (c bs-min (c bs) 4) (fx (min (c bs) 4) (bR.fn bs)) (bR.fn (bs.drop 4)):=by intro J t;have V:min (c bs) 4=4:=y;rw[V];simp[fx,cZ.fn,gr,al,p5]
   have aq:∀R∈bs.take 4,cC R=f:=λR D=>w R (hf D);have aa:=a2.a0 ab (kP (dz b+(c ab-c b.1:Nat)) i (bs.take 4));refine cJ s a ?_ (g.aA (bs.drop 4,ab++[kP (dz b+(c ab-c b.1:Nat)) i (bs.take 4)]) a ?_ ?_ ?_ ?_)
   .simp only[U,a7,Q,B,X,List.length_take,show nv.bytes=32 from a,ba,a9];and_intros<;>first|omega|omega
   .simp only[U.Y,U,dn,fl,gA,su,bT,c5,ba,a9];and_intros<;>first|rfl|omega|simp|exact ao
   .simp only[U.Y,U,Q,dn,fl,gA,ba,a9];and_intros<;>first|rfl|exactλ_ _=>rfl|exact aa|omega
   .refine⟨λR D=>w R (ss D),by grind,by grind,p,by grind,?_⟩;grind
   grind
  have F:ab=b.1++e:=by rw[A];cases p<;>simp[ix,u]
  refine bf s [(30,l)] a bK (g.aC ?_);refine du () v a ?_ a ?_
  .simp only[U.Y,U,F,dn,ba,a9];and_intros<;>first|rfl|omega|simp
  simp[F]
 rintro⟨⟩ -;have z:fJ i b q=(decide (20<c b.1+c e)||(decide (99<dz b+c e-1)||(decide (20<dF b)||decide (9<=c b.2.2)))):=by unfold fJ;rw[T]
 have N:-4000000<=dF b/\dF b<=4000001:=by
  have:=s8 b.2.2 I.aN;unfold dF;split
  .omega
  rename_i u;exact Ou
 have ar:c (b.1++e)=c b.1+c e:=dn;by_cases ag:20<c b.1+c e
 .have j:fJ i b q=f:=M;rw[j];exact bf s [(53,f)] a bw zM
 by_cases ah:99<dz b+c e-1
 .have j:fJ i b q=f:=M;rw[j];exact bf s [(53,l),(57,f)] a E3 zM
 by_cases ai:20<dF b
 .have j:fJ i b q=f:=M;rw[j];exact bf s [(53,l),(57,l),(61,f)] a E3 zM
 by_cases aj:9<=c b.2.2
 .have j:fJ i b q=f:=M;rw[j];exact bf s [(53,l),(57,l),(61,l),(67,f)] a E3 zM
 have j:fJ i b q=l:=M;rw[j];have E:=bj.a0 b.2.1 (gS (dF b) i q);have W:=a1.a0 b.2.2 (k,dF b);refine bf s [(53,l),(57,l),(61,l),(67,l)] a ?_ ?_
 .simp only[U,B,bD.E,dn,a7,show rI.bytes=32 from a,show s9.bytes=16 from a,bA,dj,ba,a9];and_intros<;>first|exact K|exact bD.U _|rfl|omega
 refine g.freeze 8 1 a a a ?_;refine g.cp bd [] a ?_ a a a fI;simp[U.Y,U,bD.E,hU,T,dn,fl,gA,ba,a9];and_intros<;>first|rfl|exactλ_ _=>rfl|exact E|exact W|simp
def tm(a:Int×Int):Bool:=decide (0<=a.1/\a.1<=9)&&decide (0<=a.2)
abbrev ov(b:eT)(a:Nat):Int×Int:=b.2.2.2.1.getD a (0,0)
abbrev oh(b:eT)(a:Nat):Int:=b.2.2.2.2.getD a 0
def qY(b:eT)(a:Nat):Bool:=tm (ov b a)&&decide (0<=oh b a/\oh b a<=2)
def fY(a:eT):Bool:=decide (c a.2.2.2.1=2)&&decide (c a.2.2.2.2=2)&&(aC 2).all (qY a)&&ha a.1 a.2.1
def V2(A):Y r 26 [p3.a8 A] [] (bh (tm A)) []:=by
 refine Y.K func26 rfl λe=>?_;have d:a8 r [(27,jI)]:=.cons ku .nil;by_cases b:0<=A.1/\A.1<=9
 .exact a_ d [(6,f)] a (by simp[b]) (g.aw a (by simp[tm,b]))
 exact a_ d [(6,l)] a bV (g.aw a (by simp only[U,tm,lE b];simp))
def I'(d)(w:pZ d.2.1.1):Y r 9 [fq d] [] (bh (fY d)) []:=by
 refine Y.K func9 rfl λx=>?_;have e:a8 r [(26,df p3 (λm=>bh (tm m)) λ_=>[]),(27,jI),(28,By)]:=.cons (.ba λm _=>V2 m) (.cons ku (.cons ML .nil));unfold fY;by_cases u:c d.2.2.2.1=2
 rotate_left
 .exact a_ e [(8,f),(13,f)] a bV (g.aw a (by simp[lE u]))
 by_cases q:c d.2.2.2.2=2
 rotate_left
 .exact a_ e [(8,l),(13,f)] a bV (g.aw a (by simp[lE q]))
 refine a_ e [(8,l),(13,l)] a bV ?_;rw[fm u,fm q,fp,fp];refine g.aL 1 (λb=>b<=2/\∀s,s<b->qY d s=f) (λb:Nat=>[(1,aG 0 0),(3,S b)]) (λ_=>[.cells 35 (lx d)]) (λb=>2-b) 0 a E a E a ⟨by omega,by omega⟩ ?_;rintro b ⟨v,o⟩;by_cases k:b<2
 .have j:d.2.2.2.1.getD b a1.I=ov d b:=rfl;have p:d.2.2.2.2.getD b aA.I=oh d b:=rfl;cases i:tm (ov d b)with
  |false=>
   refine a_ e [(15,f),(25,f),(33,f)] a ?_ (g.aX (bW.zero a ?_))
   .simp[-al,j,i];omega
   rw[kE k (by rw[qY,i];rfl)];simp
  |true=>
   by_cases t:0<=oh d b/\oh d b<=2
   .refine a_ e [(15,f),(25,l),(33,l)] a ?_ (g.aA (b+1) a E E ⟨k,iG o (by rw[qY,i,fm t];rfl)⟩ y);simp[-al,j,p,i,a7];omega
   refine a_ e [(15,f),(25,l),(33,f)] a ?_ (g.aX (bW.zero a ?_))
   .simp[-al,j,p,i];omega
   rw[kE k (by rw[qY,lE t,Bool.and_false])];simp
 obtain rfl:b=2:=y;rw[f'.2 o,fp];refine a_ e [(15,l)] a E (g.aC ?_);refine b_ e a ?_ (g.aw a ?_)
 .simp[a2.E,a2.U,bj.E,bj.U,a1.E,a1.U,aA.E,aA.U,w]
 exact zT
abbrev xJ(a:cq)(e:Nat)(d:Nat->m N)(g:Nat)(k:m eF)(b:fj)(j:Nat)(i:m Z):m an:=[jV a,.cells 27 [cB,cB,cB],.h 70 2 e d,.h 74 2 g (bj.fn k),.h 101 2 (c a.2.2) (a1.fn a.2.2),.cells 27 [.R 2 (.S e 2 0 e),.R 3 (.S g 2 0 g),.R 4 (.S (c a.2.2) 2 0 (c a.2.2))],.J (ck 103 2 b j i)]
def T5(b)(i0)(V:i0<c b.1)(A:0<(b.1.getD i0 (0,[])).2.length)(z:c b.1<=4000000)(K:∀w∈b.1,c w.2<=4000000)(H:c b.2.1<=4000000)(R:lq b)(G:c b.2.2<=4000000):
  bk (ι:=pX (b.1.getD i0 (0,[])).2) r 70 [b1 b] [] (λ_=>.n (.agg [.R 0 (.S (c b.1) 2 0 (c b.1)),.R 1 (.S (c b.2.1) 2 0 (c b.2.1)),.R 2 (.S (c b.2.2) 2 0 (c b.2.2))]))
   (λk=>[.h 70 2 (c b.1) (gf b.1 i0 (cX k.1.1 (b.1.getD i0 (0,[])).2.length)),.h 74 2 (c b.2.1) (bj.fn b.2.1),.h 101 2 (c b.2.2) (a1.fn b.2.2),tr (b.1.getD i0 (0,[])).2 k]):=by
 refine bk.bD bd func70 rfl rfl rfl λW=>?_;refine bQ [(1000001,f)] a v (g.region ?_);refine gJ [] 5 a v (g.dJ 9 70 2 (a2.fn []) a ?_);refine g.dJ 10 74 2 (bj.fn []) a ?_;refine g.dJ 11 101 2 (a1.fn []) a ?_;refine bQ [(1000002,f)] a Pk (g.fg 103 2 ?_);refine cu a v (g.aL 7 (I3 b.1 i0) (λj:S3=>[(1,aG 0 0),(2,aG 1 0),(3,aG 5 0),(4,S j.1)]) (λj=>xJ b j.1 (gf b.1 i0 (nH j)) 0 [] j.2.1 j.2.2.1 j.2.2.2) (λj=>c b.1-j.1) (0,.nil n,0,[]) a E a ?_ a ⟨by omega,.inl ⟨by omega,a⟩⟩ ?_)
 .simp[bt,o_];rfl
 rintro⟨d,i,q,m⟩ ⟨t,B⟩;simp only at t B;by_cases p:d<c b.1
 .have aa:b.1.getD d (0,[])∈b.1:=M;have x:b.1.getD (d:Int).toNat a2.I=b.1.getD d (0,[]):=M;have k:=K _ aa;by_cases u:d=i0
  .subst u;have F:q=0:=by rcases B with⟨_,O⟩|⟨N,_⟩<;>omega
   rw[<-x]at A k;refine a6 [(20,f),(1000005,f)] a bw ?_;refine g.eI (ι:=pX (b.1.getD (d:Int).toNat a2.I).2) b6 15 18 8 (λs=>ay s 14)
    (λs=>[aG 5 0,cz 2 (.S d 2 0 d),aG 0 0,a2.S b.1,S d,iK [.int .i64 (b.1.getD (d:Int).toNat a2.I).1,lo (b.1.getD (d:Int).toNat a2.I)],iK [.int .i64 (b.1.getD (d:Int).toNat a2.I).1,lo (b.1.getD (d:Int).toNat a2.I)],S (b.1.getD (d:Int).toNat a2.I).1,
     ax (.S f 2 0 (λe=>[].getD e [])),aG 0 0,a2.S b.1,S d,iK [.int .i64 (b.1.getD (d:Int).toNat a2.I).1,lo (b.1.getD (d:Int).toNat a2.I)],iK [lo (b.1.getD (d:Int).toNat a2.I)],ax (lo (b.1.getD (d:Int).toNat a2.I))].getD s .any)
    (λk s=>[ax (rV _ k),.n (.agg [.c (.int .i64 (b.1.getD (d:Int).toNat a2.I).1),.c (rV _ k)]),ax (.S f 2 1 (λe=>[[.int .i64 (b.1.getD (d:Int).toNat a2.I).1,rV _ k]].getD e []))].getD (s-15) .any)
    (λk=>xJ b d (gf b.1 d (cX i q)) 0 [] i q m++[tr _ k])
    rfl rfl rfl rfl rfl rfl rfl (λs p=>by have:=fc p;omega) rfl
    ⟨aV.y,aV.y,aV.y,aV.y,aV.y,aV.eval (bg:=[]) bd a8.nil a ?_,aV.y,aV.y,aV.y,aV.y,aV.y,aV.y,aV.eval (bg:=[]) bd a8.nil a ?_,aV.y,aV.y,v,v,v,v,v,v,v⟩
    (λk=>⟨aV.y,aV.y,aV.y,aV.y,aV.y,aV.eval (bg:=[]) bd a8.nil a ?_,aV.y,aV.y,aV.y,aV.y,aV.y,aV.y,aV.eval (bg:=[]) bd a8.nil a ?_,aV.y,aV.y,v,aV.y,aV.y,v⟩)
    (dx.fe a (ey.fC (Gf a) a a a A zX (GZ _ _))) ?_
   .exact bw
   .exact bw
   .exact bw
   .exact bw
   rw[x];rw[x]at A k;generalize J:b.1.getD d (0,[])=w at *;intro C;refine a6 [(1000004,f)] a PY (g.swap 6 7 ca a a (λ_ _ p=>p.1) (λ_ _ p=>p.1) ?_);refine aZ a bK (g.aA (d+1,C.1.1,c w.2,C.1.2) a E ?_ ?_ ?_)
   .have ai:=La (ab:=b.1) (i0:=d) (bz:=cX C.1.1 (c w.2)) (EC:=cX i q);rw[J]at ai;exact Fm
   .refine⟨by grind,.inr ⟨by grind,?_⟩⟩;grind
   grind
  refine bQ [(20,f),(2000038,f)] a EZ (g.aA (d+1,i,q,m) a E ?_ ?_ ?_)
  .have ai:=K' (ab:=b.1) (bz:=cX i q) u;exact NS
  .refine⟨by grind,?_⟩;grind
  grind
 obtain rfl:d=c b.1:=y;obtain⟨_,F,Q⟩:i0<c b.1/\q=(b.1.getD i0 (0,[])).2.length/\eg 2 (b.1.getD i0 (0,[])).2.length (bG.fn (b.1.getD i0 (0,[])).2) m:=M;subst F;clear B;generalize b.1.getD i0 (0,[])=o at *;refine bQ [(20,l)] a E (g.aC ?_);refine cu a v (g.aL 7 (λd=>d<=c b.2.1) (λd:Nat=>[(1,aG 0 0),(2,aG 1 0),(3,aG 5 0),(5,S d)]) (λd=>xJ b (c b.1) (gf b.1 i0 (cX i (c o.2))) d (b.2.1.take d) i (c o.2) m) (λd=>c b.2.1-d) 0 a E a E a y ?_);intro d t;by_cases p:d<c b.2.1
 .have aa:b.2.1.getD d (0,[])∈b.2.1:=M;have x:b.2.1.getD (d:Int).toNat bj.I=b.2.1.getD d (0,[]):=M;have k:=R _ aa;have ai:=bj.cT b.2.1 p (0,[]);generalize b.2.1.getD d (0,[])=j at *;refine bQ [(47,f),(1000010,f)] a bw ?_;rw[x];refine g.cl 7 1 105 2 (cv.fn []) a a ?_;refine cu a v (g.aL 9 (λe=>e<=c j.2) (λe:Nat=>[(1,aG 0 0),(2,aG 1 0),(3,aG 5 0),(5,S d),(6,aG 7 0),(7,S e)]) (λe=>xJ b (c b.1) (gf b.1 i0 (cX i (c o.2))) d (b.2.1.take d) i (c o.2) m++[.cells 74 [.c (.int .i64 j.1),.r 8 2 e (cv.fn (j.2.take e))],.r 105 2 e (cv.fn (j.2.take e))]) (λe=>c j.2-e) 0 a E a E a y ?_);intro e I;by_cases u:e<c j.2
  .have D:j.2.getD (e:Int).toNat cv.I=j.2.getD e ([],[]):=M;have X:=k.2 (j.2.getD e ([],[])) M;have T:=cv.cT j.2 u ([],[]);refine bQ [(66,f),(2000085,f)] a ?_ (g.aA (e+1) a ?_ ?_ ?_ ?_)
   .simp only[U,x,D,a7,show yq.bytes=40 from a,show ec.bytes=8 from a,bA,lD,ba,a9];exact fr
   .simp
   .simp only[U.Y,U,x,D,o_,cV,a9,ba];and_intros<;>first|exactλ_ _=>rfl|exact T|rfl
   .grind
   omega
  obtain rfl:e=c j.2:=y;rw[c9];refine bQ [(66,l)] a Fb (g.aC ?_);refine cu a Fh (g.aA (d+1) a E Fm M ?_);omega
 obtain rfl:d=c b.2.1:=y;rw[c9];refine bQ [(47,l)] a E (g.aC ?_);refine cu a v (g.bh ⟨(i,m),Q⟩ [2,3,4,6] ?_ (λe I=>absurd I E));simp
def TB(b:cq)(d:Int)(k:c b.2.2<=4000000)(m:d<0∨d>c b.2.2):Y r 117 [b1 b,S d] [] (b1 b) []:=by refine Y.bl bd func117 rfl rfl rfl λj=>?_;have i:a8 r [(27,jI)]:=.cons ku .nil;refine bf i [(15,f)] a bV ?_;refine g.bh () [] ?_ (λo e=>absurd e E);simp
abbrev mC(a:Nat)(d:cq)(b:m eF):m eF:=b.filter λe=>!jo a d.2.2 e
abbrev s7(d:Nat)(e:cq)(b:Nat)(g:eF):Bool:=((e.2.2.drop d).take b).any λa=>a.2==g.1
abbrev Gv(b:cq)(d:Nat)(a:m eF):m an:=[.cells 27 [.c (tE b.1),.c (tF b.2.1),.c (hT (b.2.2.take d))],.cells 27 [cB,cB,cB],.r 74 2 (c a) (bj.fn a)]
def Jh(a:α->Bool){d}(g:e<c d)(b):(d.take (e+1)).filter a=(d.take e).filter a++(if a (d.getD e b)then[d.getD e b]else[]):=ig
def R2(a:α->Bool){d}(g:e<c d)(b):(d.take (e+1)).any a=((d.take e).any a||a (d.getD e b)):=ig
def TC(b)(k)(R:k<=c b.2.2)(Q:c b.2.1<=4000000)(C:∀o∈b.2.1,-4000000<=o.1/\o.1<=4000000)(O:c b.2.2<=4000000):Y r 117 [b1 b,S k] [] (b1 (b.1,mC k b b.2.1,b.2.2.take k)) []:=by
 refine Y.bl bd func117 rfl rfl rfl λN=>?_;have p:a8 r [(27,jI)]:=.cons ku .nil;refine a_ p [(15,l),(1000006,f)] a ?_ ?_
 .simp[jf];omega
 refine g.bK 6 74 2 a a ?_;refine b_ p a v (g.aL 3 (λe=>e<=c b.2.1) (λe:Nat=>[(2,aG 0 0),(4,aG 1 0),(5,a1.S (b.2.2.drop k)),(6,.n (.aq (.r 2 2 (c (mC k b (b.2.1.take e))) (bj.fn (mC k b (b.2.1.take e)))))),(7,S e)]) (λe=>Gv b k (mC k b (b.2.1.take e))) (λe=>c b.2.1-e) 0 a ?_ a ?_ a y ?_)
 .have x:=a1.ha b.2.2 k (c b.2.2-k);simp[bT];exact x
 .simp[bT];exact⟨by omega,λe u=>by have B:e<k:=u;simp[fx,bT,cZ.fn,gr,al,io,B]⟩
 intro e u;by_cases w:e<c b.2.1
 .have F:b.2.1.getD e (0,[])∈b.2.1:=M;have s:b.2.1.getD (e:Int).toNat bj.I=b.2.1.getD e (0,[]):=M;have J:=C _ F;have x:=bj.cT b.2.1 w (0,[]);have z:mC k b (b.2.1.take (e+1))=mC k b (b.2.1.take e)++(if !jo k b.2.2 (b.2.1.getD e (0,[]))then[b.2.1.getD e (0,[])]else[]):=Jh (λo=>!jo k b.2.2 o) w (0,[]);have K:c (mC k b (b.2.1.take e))<=e:=fG (kB _ _) M;generalize mC k b (b.2.1.take e)=m at *;generalize b.2.1.getD e (0,[])=o at *;refine bf p [(31,f)] a ?_ ?_
  .simp only[U,s,bA,lD,ba,a9];grind
  refine g.aL 3 (λi=>i<=c (b.2.2.drop k)) (λi:Nat=>[(2,aG 0 0),(4,aG 1 0),(5,a1.S (b.2.2.drop k)),(6,.n (.aq (.r 2 2 (c m) (bj.fn m)))),(7,S e),(8,bh (s7 k b i o)),(9,S i)]) (λi=>Gv b k m) (λi=>c (b.2.2.drop k)-i) 0 a E a E a y ?_;intro i A;have I:=su (i:=k) (l:=b.2.2);by_cases D:i<c (b.2.2.drop k)
  .have j:(b.2.2.drop k).getD (i:Int).toNat a1.I=(b.2.2.drop k).getD i (0,0):=M;have q:s7 k b (i+1) o=(s7 k b i o||((b.2.2.drop k).getD i (0,0)).2==o.1):=R2 (λw:Int×Int=>w.2==o.1) D (0,0);cases t:s7 k b i o with
   |true=>
    refine bf p [(37,f)] a QT (g.aA (i+1) a ?_ ?_ ?_ ?_)
    .rw[t]at q;simp[q]
    .simp
    .grind
    omega
   |false=>
    refine bf p [(37,f)] a QT (g.aA (i+1) a ?_ ?_ ?_ ?_)
    .rw[t]at q;simp only[U.Y,U,bt.same,q,s,j,ba,a9,Bool.false_or];rfl
    .simp
    .grind
    omega
  obtain rfl:i=c (b.2.2.drop k):=y;have q:s7 k b (c (b.2.2.drop k)) o=jo k b.2.2 o:=by unfold s7 jo;grind
  rw[q];cases t:jo k b.2.2 o with
  |true=>
   rw[t]at z;refine bf p [(37,l)] a E (g.aC ?_);refine cJ p a tX (g.aA (e+1) a ?_ ?_ ?_ ?_)
   .have:mC k b (b.2.1.take (e+1))=m:=M;rw[this];exact PC
   .rw[show mC k b (b.2.1.take (e+1))=m by grind];simp
   .grind
   omega
  |false=>
   rw[t]at z;refine bf p [(37,l)] a E (g.aC ?_);refine cJ p a ?_ (g.aA (e+1) a ?_ ?_ ?_ ?_)
   .simp only[U,a7,show rI.bytes=32 from a,ba,a9];exact fr
   .rw[show mC k b (b.2.1.take (e+1))=m++[o] by grind];simp only[U.Y,U,s,bt.same,ba,a9,dn,gW];exact⟨bj.a0 m o,a⟩
   .rw[show mC k b (b.2.1.take (e+1))=m++[o] by grind];simp only[U.Y,U,s,bt.same,ba,a9,dn,gW];exact bj.a0 m o
   .grind
   omega
 obtain rfl:e=c b.2.1:=y;rw[c9];refine bf p [(31,l)] a E (g.aC ?_);refine cJ p a v (g.bh () [] ?_ (λi A=>absurd A E));simp
def W1(b)(d)(e:dN b)(m:d.1≠1)(i:d.1≠2)(o:d.1≠3)(k:d.1≠4):Y r 69 [b1 b,ei d] [] (b1 b) []:=by
 refine Y.bl bd func69 rfl rfl rfl λp=>?_;refine aZ a v (g.aF (qq b e.a2 e.bp e.a7 e.bx e.aN) [] a (a6 [(13,l),(42,l),(48,l),(91,l)] a ?_ ?_))
 .simp[m,i,o,k]
 exact zE
def IZ(b)(d)(az)(e:dN b)(i:d.1=2)(k:Y r 117 [b1 b,S d.2.1] [] (b1 az) []):Y r 69 [b1 b,ei d] [] (b1 az) []:=by
 refine Y.bl bd func69 rfl rfl rfl λm=>?_;refine aZ a v (g.aF (qq b e.a2 e.bp e.a7 e.bx e.aN) [] a (a6 [(13,l),(42,f)] a ?_ ?_))
 .simp[i]
 refine g.bV k.tocD [] a a a a E a a a bl a bl a ?_;rintro -;exact aZ a v zE
abbrev nx(a:Int)(b:m b'):m b':=b.filter λd=>!(d.1==a)
abbrev aci(a:cq)(d:dL)(b:m b'):m an:=[jV a,.cells 32 (vo d),.cells 27 [cB,cB,cB],.r 70 2 (c a.1) (a2.fn a.1),.r 74 2 (c a.2.1) (bj.fn a.2.1),.r 101 2 (c a.2.2) (a1.fn a.2.2),
 .cells 27 [.r 3 2 (c a.1) (a2.fn a.1),.r 4 2 (c a.2.1) (bj.fn a.2.1),.r 5 2 (c a.2.2) (a1.fn a.2.2)],.r 70 2 (c b) (a2.fn b)]
def WV(b)(d)(m:dN b)(u:d.1=1):Y r 69 [b1 b,ei d] [] (b1 (b.1.filter λj=>!(j.1==d.2.1),b.2.1,b.2.2)) []:=by
 refine Y.bl bd func69 rfl rfl rfl λA=>?_;refine aZ a v (g.aF (qq b m.a2 m.bp m.a7 m.bx m.aN) [] a (a6 [(13,f),(1000005,f)] a ?_ ?_))
 .simp[u]
 refine g.bK 6 70 2 a a ?_;refine aZ a v ?_;have w:=m.a2;refine g.aL 8 (λe=>e<=c b.1) (λe:Nat=>[(3,aG 1 0),(4,aG 2 0),(5,aG 6 0),(6,.n (.aq (.r 7 2 (c (nx d.2.1 (b.1.take e))) (a2.fn (nx d.2.1 (b.1.take e)))))),(7,S e)]) (λe=>aci b d (nx d.2.1 (b.1.take e))) (λe=>c b.1-e) 0 a E a E a y ?_;intro e t;by_cases q:e<c b.1
 .have s:b.1.getD (e:Int).toNat a2.I=b.1.getD e (0,[]):=by rw[c5];rfl
  have k:nx d.2.1 (b.1.take (e+1))=nx d.2.1 (b.1.take e)++(if !((b.1.getD e (0,[])).1==d.2.1)then[b.1.getD e (0,[])]else[]):=Jh (λj:b'=>!(j.1==d.2.1)) q (0,[]);have z:c (nx d.2.1 (b.1.take e))<=e:=fG (kB _ _) bV;generalize nx d.2.1 (b.1.take e)=i at *;generalize b.1.getD e (0,[])=j at *;cases o:j.1==d.2.1 with
  |true=>
   rw[o]at k;refine bQ [(20,f),(31,l)] a ?_ (g.aA (e+1) a ?_ ?_ ?_ ?_)
   .simp only[U,s,a7,bA,dj,lD,ba,a9];and_intros<;>first|omega|simp[bne,o]
   .rw[show nx d.2.1 (b.1.take (e+1))=i by simpa using k];exact PC
   .rw[show nx d.2.1 (b.1.take (e+1))=i by simpa using k];simp
   .exact sd
   omega
  |false=>
   rw[o]at k;refine bQ [(20,f),(31,f)] a ?_ (g.aA (e+1) a ?_ ?_ ?_ ?_)
   .simp only[U,s,a7,show nv.bytes=32 from a,bA,dj,lD,ba,a9];and_intros<;>first|omega|simp[bne,o]
   .rw[show nx d.2.1 (b.1.take (e+1))=i++[j] by simpa using k];simp only[U.Y,U,s,bt.same,ba,a9,dn,gW];exact⟨a2.a0 i j,a⟩
   .rw[show nx d.2.1 (b.1.take (e+1))=i++[j] by simpa using k];simp only[U.Y,U,s,bt.same,ba,a9,dn,gW];exact a2.a0 i j
   .exact sd
   omega
 obtain rfl:e=c b.1:=y;rw[c9];refine bQ [(20,l)] a E (g.aC ?_);refine cu a v (g.bh () [] ?_ (λx p=>absurd p E));simp
def T0{b}{args}(ab)(dw)(k)(T:Nat->m N)(a)(o:c a=k)(j:bt k T (a1.fn a))(d:bk (ι:=Unit) r b args [] (λ_=>.n (.agg [dC 0 (c ab) (c ab),dC 1 (c dw) (c dw),dC 2 k k])) (λ_=>[.h 70 2 (c ab) (a2.fn ab),.h 74 2 (c dw) (bj.fn dw),.h 101 2 k T])):
  Y r b args [] (b1 (ab,dw,a)) []:=by
 have p:=bk.bM (aM:=λ_:Unit=>[.h 70 2 (c ab) (a2.fn ab),.h 74 2 (c dw) (bj.fn dw)]) (W:=101) (i:=2) (k:=λ_=>k) (T:=λ_=>T) d bl (λ_=>?_) bl (λ_=>gZ _);have e:=bk.bM (aM:=λ_:Unit=>[.h 70 2 (c ab) (a2.fn ab)]) (W:=74) (i:=2) (k:=λ_=>c dw) (T:=λ_=>bj.fn dw) p bl (λ_=>?_) bl (λ_=>gZ _);have g:=bk.bM (aM:=λ_:Unit=>[]) (W:=70) (i:=2) (k:=λ_=>c ab) (T:=λ_=>a2.fn ab) e bl (λ_=>?_) bl (λ_=>bC _);refine(g.le (oG:=λ_=>b1 (ab,dw,a)) bl (λ_=>?_)).aq
 .simp only[U.Y,U,a9,ba];exact⟨bt.same,bt.same,o.symm,j⟩
 .simp
 .simp
 simp
def W0(b)(d:dL)(e:dN b)(k:d.1=4)(q:0<=d.2.1)(p:d.2.1<c b.2.2)(i:a7 .i64 (3-lv b d)):
  bk (ι:=Unit) r 69 [b1 b,ei d] [] (λ_=>.n (.agg [dC 0 (c b.1) (c b.1),dC 1 (c b.2.1) (c b.2.1),dC 2 (c b.2.2) (c b.2.2)])) (λ_=>[.h 70 2 (c b.1) (a2.fn b.1),.h 74 2 (c b.2.1) (bj.fn b.2.1),.h 101 2 (c b.2.2) (ye b d)]):=by
 refine bk.bD bd func69 rfl rfl rfl λm=>?_;have j:a8 r [(27,jI)]:=.cons ku .nil;have o:=e.aN;refine b_ j a v (g.aF (T3 b e.a2 e.bp e.a7 e.bx e.aN) [] a (a_ j [(13,l),(42,l),(48,l),(91,f),(99,f)] a ?_ ?_))
 .have i:a7 .i64 (3-(b.2.2.getD (0+d.2.1.toNat) a1.I).1):=i;simp only[U,a7,k,bA,ba,a9]at i⊢;exact Fq
 refine g.bh () [3,4,5] ?_ fI;simp
def WY(b)(a:dL)(d:dN b)(j:a.1=4)(e:0<=a.2.1)(g:a.2.1<c b.2.2)(i:a7 .i64 (3-lv b a)):
  Y r 69 [b1 b,ei a] [] (b1 (b.1,b.2.1,b.2.2.set (0+a.2.1.toNat) (3-lv b a,(b.2.2.getD (0+a.2.1.toNat) a1.I).2))) []:=
 T0 b.1 b.2.1 _ _ _ E (a1.cS b.2.2 (0+a.2.1.toNat) (3-lv b a,(b.2.2.getD (0+a.2.1.toNat) a1.I).2) (c b.2.2) (bC _)) (W0 b a d j e g i)
def WZ(b)(e:dL)(d:dN b)(k:e.1=4)(p:¬(0<=e.2.1/\e.2.1<c b.2.2)):Y r 69 [b1 b,ei e] [] (b1 b) []:=by
 refine Y.bl bd func69 rfl rfl rfl λm=>?_;have i:a8 r [(27,jI)]:=.cons ku .nil;have o:=d.aN;refine b_ i a v (g.aF (qq b d.a2 d.bp d.a7 d.bx d.aN) [] a (a_ i [(13,l),(42,l),(48,l),(91,f),(99,l)] a ?_ ?_))
 .simp only[U,a7,k,dj,ba,a9];exact Fq
 refine g.bh () [] ?_ (λq j=>absurd j E);simp
abbrev D6(a:cq)(j:dL)(e g b d:Nat)(i:m Z):m an:=[jV a,.cells 32 (vo j),.cells 27 [cB,cB,cB],.h 70 2 (c a.1) (gf a.1 e (.slice (h ⟨g,0,n⟩) d b)),.h 74 2 (c a.2.1) (bj.fn a.2.1),.h 101 2 (c a.2.2) (a1.fn a.2.2),.J (ck 103 2 (.row g b) d i),.cells 27 [dC 3 (c a.1) (c a.1),dC 4 (c a.2.1) (c a.2.1),dC 5 (c a.2.2) (c a.2.2)]]
def WX(b)(d)(x:dN b)(u:d.1=3)(i0 A)(t:sj b d i0 A):
  bk (ι:={D:fj×m Z // eg 2 (b.1.getD i0 (0,[])).2.length (bG.fn (gI (b.1.getD i0 (0,[])).2 A d.2.2.2)) D.2}) r 69 [b1 b,ei d] []
   (λ_=>.n (.agg [dC 0 (c b.1) (c b.1),dC 1 (c b.2.1) (c b.2.1),dC 2 (c b.2.2) (c b.2.2)]))
   (λD=>[.h 70 2 (c b.1) (gf b.1 i0 (cX D.1.1 (b.1.getD i0 (0,[])).2.length)),.h 74 2 (c b.2.1) (bj.fn b.2.1),.h 101 2 (c b.2.2) (a1.fn b.2.2),.J (ck 103 2 D.1.1 (b.1.getD i0 (0,[])).2.length D.1.2)]):=by
 have W:=t.gr;have Y:=x.bp _ (vb t.a9);have G:=x.a2;refine bk.bD bd func69 rfl rfl rfl λH=>?_;have i:a8 r [(27,jI)]:=.cons ku .nil;refine b_ i a v (g.a_ (T5 b i0 t.a9 y x.a2 x.bp x.a7 x.bx x.aN) [] a bl ?_);rintro⟨⟨T,M⟩,Q⟩;refine g.fB (ck.len (d:=6) a) λV=>?_;obtain⟨j,cap,rfl⟩:=V.2.2.1 y;refine a_ i [(13,l),(42,l),(48,f)] a gV (g.aL 8 (λp:Nat×m Z=>p.1<=c b.1/\(p.1<=i0->p.2=M)/\(i0<p.1->eg 2 (b.1.getD i0 (0,[])).2.length (bG.fn (gI (b.1.getD i0 (0,[])).2 A d.2.2.2)) p.2)) (λp=>[(3,aG 1 0),(4,aG 2 0),(5,aG 7 0),(8,S p.1)]) (λp=>D6 b d i0 j cap (b.1.getD i0 (0,[])).2.length p.2) (λp=>c b.1-p.1) (0,M) a E a ?_ a ⟨by omega,λ_=>rfl,λu=>by omega⟩ ?_)
 .simp only[U.Y,U,bt.same,a9,ba];and_intros<;>first|exactλ_ _=>rfl|rfl
 rintro⟨e,q⟩ ⟨F,K,J⟩;simp only at F K J;have k:0+(e:Int).toNat=e:=y;by_cases u:e<c b.1
 .by_cases R:e=i0
  .subst R;obtain rfl:=K (bC _);have w:=t.db;have z:=t.bX;generalize aa:(b.1.getD e (0,[])).2=ag at *;refine a_ i [(54,f),(1000017,f)] a ?_ ?_
   .simp only[U,bA,ba,a9];omega
   refine g.eI (ι:=Unit) b6 17 20 20 (λo=>ay o 16) (λo=>[aG 7 0,.n (.aq (dC 3 (c b.1) (c b.1))),S e,cz 3 (.bu (c b.1) 2 (0+(e:Int).toNat) 0),cz 3 (.bu (c b.1) 2 (0+(e:Int).toNat) 0),S (b.1.getD (0+(e:Int).toNat) (0,[])).1,aG 1 1,S d.2.1,bh ((b.1.getD (0+(e:Int).toNat) (0,[])).1==d.2.1),bh f,aG 1 2,S d.2.2.1,aG 7 0,.n (.aq (dC 3 (c b.1) (c b.1))),S e,cz 3 (.bu (c b.1) 2 (0+(e:Int).toNat) 0),cz 3 (.bu (c b.1) 2 (0+(e:Int).toNat) 1)].getD o .any)
    (λ_ o=>[ax (.val (.slice (h ⟨j,0,n⟩) (c ag) cap)),S (c ag),S (c ag-1)].getD (o-17) .any)
    (λ_=>D6 b d e j cap (c ag) q) a a a a a a a (λo u=>by have:=fc u;omega) a
    ⟨aV.y,aV.y,aV.y,aV.eval (bg:=[]) bd i a q5,aV.y,aV.eval (bg:=[]) bd i a NA,aV.y,aV.y,aV.y,aV.eval (bg:=[(66,f)]) bd i a Np,aV.y,aV.y,aV.y,aV.y,aV.y,aV.eval (bg:=[]) bd i a q5,aV.y,v,v,v,v,v,v⟩
    (λ_=>⟨aV.y,aV.y,aV.y,aV.eval (bg:=[]) bd i a q5,aV.y,aV.eval (bg:=[]) bd i a NA,aV.y,aV.y,aV.y,aV.eval (bg:=[(66,f)]) bd i a Np,aV.y,aV.y,aV.y,aV.y,aV.y,aV.eval (bg:=[]) bd i a q5,aV.y,v,aV.eval (bg:=[]) bd i a q5,aV.eval (bg:=[]) bd i a FA,v⟩)
    (dx.dg (aV.a1 (j1 a) (a0.e8 bd (ai:=.aq (.c (.val (.slice (h ⟨j,0,n⟩) (c ag) cap)))) a a a a a ?_ ?_))) λ_=>?_
   .exact Qx
   .grind
   refine a_ i [(78,f),(1000018,f)] a ?_ ?_
   .simp only[U,bA,a9];omega
   refine g.eI (ι:=Unit) b6 5 10 8 (λo=>ay o 4||(ay 6 o&&ay o 9)) (λo=>[aG 7 0,.n (.aq (dC 3 (c b.1) (c b.1))),S e,cz 3 (.bu (c b.1) 2 (0+(e:Int).toNat) 0),cz 3 (.bu (c b.1) 2 (0+(e:Int).toNat) 1),.any,aG 1 2,S d.2.2.1,aG 1 3,ax (.V d.2.2.2)].getD o .any)
    (λ_ o=>[ax (.val (.slice (h ⟨j,0,n⟩) (c ag) cap))].getD (o-5) .any)
    (λ_=>D6 b d e j cap (c ag) q) a a a a a a a (λo u=>by simp at u;omega) a
    ⟨aV.y,aV.y,aV.y,aV.eval (bg:=[]) bd i a q5,aV.y,v,aV.y,aV.y,aV.y,aV.y,v,v,v,v⟩
    (λ_=>⟨aV.y,aV.y,aV.y,aV.eval (bg:=[]) bd i a q5,aV.y,v,aV.y,aV.y,aV.y,aV.y,v⟩)
    (dx.dg (aV.a1 (j1 a) (a0.e8 bd (ai:=.aq (.c (.val (.slice (h ⟨j,0,n⟩) (c ag) cap)))) a a a a a ?_ ?_))) λ_=>?_
   .exact Qx
   .grind
   refine b_ i a q5 ?_;have N:c q=c ag*2:=Q.len;have I:0+d.2.2.1.toNat*2+1=A*2+1:=y;refine g.eN bd 6 a a a a a a a ?_ a a λB C=>?_
   .show 0+d.2.2.1.toNat*2+1+1<=c q;omega
   have ab:=Jm Q W C;refine b_ i a FA (g.aA (e+1,q.take (A*2+1)++B++q.drop (A*2+1+c B)) a E ?_ ?_ ?_)
   .simp only[U.Y,U,bt.same,a9,ba];show ck 103 2 _ _ (List.take (0+d.2.2.1.toNat*2+1) q++B++List.drop (0+d.2.2.1.toNat*2+1+c B) q)=_;rw[I]
   .grind
   grind
  have X:=t.b3 e u R;refine a_ i [(54,f),(66,l),(78,l)] a ?_ (g.aA (e+1,q) a ?_ ?_ ?_ ?_)
  .simp only[U,a7,k,eX,bA,ba,a9];and_intros<;>first|exact X|omega
  .simp
  .simp
  .grind
  grind
 obtain rfl:e=c b.1:=y;refine a_ i [(54,l)] a E (g.aC ?_);refine b_ i a v (g.bh ⟨(.row j cap,q),J t.a9⟩ [3,4,5,6] ?_ fI);simp
def T2{q}{args}(b)(d)(i0 A)(x:i0<c b.1)(t:bk (ι:={g:fj×m Z // eg 2 (b.1.getD i0 (0,[])).2.length (bG.fn (gI (b.1.getD i0 (0,[])).2 A d.2.2.2)) g.2}) r q args []
   (λ_=>.n (.agg [dC 0 (c b.1) (c b.1),dC 1 (c b.2.1) (c b.2.1),dC 2 (c b.2.2) (c b.2.2)]))
   (λg=>[.h 70 2 (c b.1) (gf b.1 i0 (cX g.1.1 (b.1.getD i0 (0,[])).2.length)),.h 74 2 (c b.2.1) (bj.fn b.2.1),.h 101 2 (c b.2.2) (a1.fn b.2.2),.J (ck 103 2 g.1.1 (b.1.getD i0 (0,[])).2.length g.1.2)])):
  Y r q args [] (b1 (g0 b d i0 A)) []:=by
 generalize e:b.1.getD i0 (0,[])=j at *;have z:∀o,o≠i0->a2.fn (g0 b d i0 A).1 o=a2.fn b.1 o:=λo p=>by simp[cZ.fn,gr,al,o2,p_ p]
 have D:a2.fn (g0 b d i0 A).1 i0=[.int .i64 j.1,.S l 2 (c j.2) (bG.fn (gI j.2 A d.2.2.2))]:=by have:(g0 b d i0 A).1.getD i0 a2.I=(j.1,gI j.2 A d.2.2.2):=M;show a2.a8 ((g0 b d i0 A).1.getD i0 a2.I)=_;rw[this];show[N.int .i64 j.1,N.S l 2 (c (gI j.2 A d.2.2.2)) (bG.fn (gI j.2 A d.2.2.2))]=_;rw[Lr]
 have y:=bk.fy (aM:=λg:{g:fj×m Z // eg 2 (c j.2) (bG.fn (gI j.2 A d.2.2.2)) g.2}=>[.h 70 2 (c b.1) (gf b.1 i0 (cX g.1.1 (c j.2))),.h 74 2 (c b.2.1) (bj.fn b.2.1),.h 101 2 (c b.2.2) (a1.fn b.2.2)]) (e_:=λ_=>[.h 70 2 (c b.1) (a2.fn (g0 b d i0 A).1),.h 74 2 (c b.2.1) (bj.fn b.2.1),.h 101 2 (c b.2.2) (a1.fn b.2.2)]) (W:=103) (i:=2) (k:=c j.2) (bO:=λg=>g.1.1) (ag:=λg=>g.1.2) t (λg=>g.2) 0 bl bl bl bl (λ_=>gZ _)
  (λg o p=>by exact bK)
  (λg o p s C I=>by
   by_cases u:o=i0
   .subst u;rw[D]at I;have:gf b.1 o (cX g.1.1 (c j.2)) o=[.int .i64 j.1,.val (cX g.1.1 (c j.2))]:=NI;rw[this];rcases s with _|_|s
    .simp at I;subst I;exact⟨_,a,.inl a⟩
    .exact QY
    grind
   .rw[z o u]at I;have:gf b.1 i0 (cX g.1.1 (c j.2)) o=a2.fn b.1 o:=EQ
    rw[this];exact⟨C,I,.inl a⟩)
 have B:=bk.bM (aM:=λ_=>[.h 70 2 (c b.1) (a2.fn (g0 b d i0 A).1),.h 74 2 (c b.2.1) (bj.fn b.2.1)]) (W:=101) (i:=2) (k:=λ_=>c b.2.2) (T:=λ_=>a1.fn b.2.2) y bl (λ_=>?_) bl (λ_=>gZ _);have v:=bk.bM (aM:=λ_=>[.h 70 2 (c b.1) (a2.fn (g0 b d i0 A).1)]) (W:=74) (i:=2) (k:=λ_=>c b.2.1) (T:=λ_=>bj.fn b.2.1) B bl (λ_=>?_) bl (λ_=>gZ _);have w:=bk.bM (aM:=λ_=>[]) (W:=70) (i:=2) (k:=λ_=>c b.1) (T:=λ_=>a2.fn (g0 b d i0 A).1) v bl (λ_=>?_) bl (λ_=>bC _);refine(w.le (oG:=λ_=>b1 (g0 b d i0 A)) bl (λ_=>?_)).aq
 .exact OT
 .simp
 .simp
 simp
def WW(b)(d)(e:dN b)(g:d.1=3)(i0 A)(a:sj b d i0 A):Y r 69 [b1 b,ei d] [] (b1 (g0 b d i0 A)) []:=
 T2 b d i0 A a.a9 (WX b d e g i0 A a)
abbrev acl(a:cq)(b:dL):m an:=[jV a,.cells 32 (vo b),.cells 27 [cB,cB,cB],.r 70 2 (c a.1) (a2.fn a.1),.r 74 2 (c a.2.1) (bj.fn a.2.1),.r 101 2 (c a.2.2) (a1.fn a.2.2),
 .cells 27 [.r 3 2 (c a.1) (a2.fn a.1),.r 4 2 (c a.2.1) (bj.fn a.2.1),.r 5 2 (c a.2.2) (a1.fn a.2.2)]]
def W2(b)(d)(i:dN b)(u:d.1=3)(q:pV b d):Y r 69 [b1 b,ei d] [] (b1 b) []:=by
 refine Y.bl bd func69 rfl rfl rfl λA=>?_;have j:a8 r [(27,jI)]:=.cons ku .nil;have z:=i.a2;refine b_ j a v (g.aF (qq b i.a2 i.bp i.a7 i.bx i.aN) [] a (a_ j [(13,l),(42,l),(48,f)] a gV (g.aL 7 (λe=>e<=c b.1) (λe:Nat=>[(3,aG 1 0),(4,aG 2 0),(5,aG 6 0),(8,S e)]) (λ_=>acl b d) (λe=>c b.1-e) 0 a E a E a y ?_)));intro e o;by_cases u:e<c b.1
 .have t:=q e u;have w:=i.bp _ (vb u);have k:b.1.getD (e:Int).toNat a2.I=b.1.getD e (0,[]):=by rw[c5];rfl
  generalize b.1.getD e (0,[])=s at *;by_cases m:s.1=d.2.1
  .refine a_ j [(54,f),(66,f),(78,l)] a ?_ (g.aA (e+1) a ?_ ?_ ?_ ?_)
   .simp only[U,a7,k,m,fZ,bA,dj,ba,a9];exact fr
   .simp
   .simp
   .exact sd
   omega
  refine a_ j [(54,f),(66,l),(78,l)] a ?_ (g.aA (e+1) a ?_ ?_ ?_ ?_)
  .simp only[U,a7,k,eX,bA,dj,ba,a9];and_intros<;>first|exact m|omega
  .simp
  .simp
  .exact sd
  omega
 obtain rfl:e=c b.1:=y;refine a_ j [(54,l)] a E (g.aC ?_);refine b_ j a v (g.bh () [] ?_ (λx p=>absurd p E));simp
def V7(k):Y r 249 [S k] [] (bh (decide (0<=k)&&decide (k<999999999989))) []:=by
 refine Y.K func249 rfl λb=>?_;by_cases u:0<=k
 .exact a6 [(5,f)] a gV (g.aw a gV)
 exact a6 [(5,l)] a gV (g.aw a gV)
def Xd(b j):Y r 203 [pc b j] [] (bh (gv (b,j))) []:=by
 refine Y.K func203 rfl λi=>?_;have e:a8 r [(249,df c8 (λd=>bh (decide (0<=d)&&decide (d<999999999989))) λ_=>[])]:=.cons (.ba λd _=>V7 d) .nil;unfold gv;cases u:(decide (0<=b)&&decide (b<999999999989))with
 |false=>exact a_ e [(6,l),(11,l)] rfl gV (g.aw rfl)
 |true=>
  by_cases I:1<=j
  .exact a_ e [(6,f),(11,f)] a dA (g.aw a sh)
  exact a_ e [(6,f),(11,l)] a dA (g.aw a sh)
abbrev Bw:bL:=df p3 (λa=>bh (gv a)) λ_=>[]
def MH:bM r 203 Bw:=.ba λa _=>Xd a.1 a.2
def MW(d:m (Int×Int)):∀a:dG,dG.fo a->(d.foldl (λa b=>a.put b.1 b.2) a).af=d.foldl ew a.af/\dG.fo (d.foldl (λa b=>a.put b.1 b.2) a):=by
 induction d with
 |nil=>grind
 |cons b g e=>
  grind[DJ,abA]
def U9(d:m b')(T:c d<=4000000)(O:c (dQ d)<=100000):Y r 166 [a2.S d] [] (a1.S (e5 d)) []:=by
 refine Y.K func166 rfl λN=>?_;have e:a8 r [(203,Bw)]:=.cons MH .nil;refine cJ e a v (g.bK 3 225 2 a a ?_);refine g.aL 1 (λb=>b<=c d/\(dQ (d.take b)).all gv=f) (λb:Nat=>[(3,.n (.aq (.r 0 2 (c (dQ (d.take b))) (a1.fn (dQ (d.take b)))))),(9,a2.S d),(10,S (c d)),(11,S b)]) (λb=>[jq (dQ (d.take b))]) (λb=>c d-b) 0 a ?_ a ?_ a ⟨by omega,a⟩ ?_
 .simp[dQ]
 .simp[dQ]
 rintro b ⟨C,k⟩;by_cases o:b<c d
 .have q:d.getD (b:Int).toNat a2.I=d.getD b (0,[]):=M;have F:=Ee o;refine bf e [(12,f)] a bw (g.aL 2 (λw=>w<=(d.getD b (0,[])).2.length/\(g' d b w).all gv=f) (λw:Nat=>[(3,.n (.aq (.r 0 2 (c (g' d b w)) (a1.fn (g' d b w))))),(5,aG 1 0),(9,a2.S d),(10,S (c d)),(11,S b),(16,bG.S (d.getD b (0,[])).2),(17,S (d.getD b (0,[])).2.length),(18,S w)]) (λw=>[jq (g' d b w),.cells 70 [.c (.int .i64 (d.getD b (0,[])).1),.c (.S l 2 (d.getD b (0,[])).2.length (bG.fn (d.getD b (0,[])).2))]]) (λw=>(d.getD b (0,[])).2.length-w) 0 a Py a Py a ⟨by omega,by simpa[g']using k⟩ ?_);rintro w ⟨V,B⟩;obtain⟨J,Q⟩:=ze (d:=d) (w:=w) o;have X:c (g' d b w)<=100000:=M;have Z:(d.getD b (0,[])).2.length<=100000:=by grind[Me]
  by_cases z:w<(d.getD b (0,[])).2.length
  .have x:(d.getD b (0,[])).2.getD (w:Int).toNat bG.I=(d.getD b (0,[])).2.getD w (0,[]):=M;have i:g' d b (w+1)=g' d b w++[(((d.getD b (0,[])).2.getD w (0,[])).1,(d.getD b (0,[])).1)]:=Q5;have A:=a1.a0 (g' d b w) (((d.getD b (0,[])).2.getD w (0,[])).1,(d.getD b (0,[])).1);cases u:gv (((d.getD b (0,[])).2.getD w (0,[])).1,(d.getD b (0,[])).1)with
   |false=>
    have W:e5 d=[]:=by obtain⟨J,Q⟩:=ze (d:=d) (w:=w+1) o;unfold e5;rw[bm];grind
    refine bf e [(19,f),(29,f)] a ?_ (g.aX (bW.zero a ?_))
    .simp only[U,x,u,bA,ba,a9];exact q4
    exact bw
   |true=>
    refine bf e [(19,f),(29,l)] a ?_ (g.aA (w+1) a ?_ ?_ ?_ ?_)
    .simp only[U,x,u,a7,show ot.bytes=16 from a,bA,ba,a9];exact q4
    .exact Qf
    .exact Qf
    .grind
    omega
  have aa:w=(d.getD b (0,[])).2.length:=y;have t:g' d b w=dQ (d.take (b+1)):=by rw[F,g'];grind[List.length_map]
  refine bf e [(19,l)] a bK (g.aC ?_);rw[t];refine cJ e a bK (g.aA (b+1) a E ?_ ⟨o,t▸B⟩ y);simp
 .obtain rfl:b=c d:=y;rw[c9]at k⊢;refine bf e [(12,l)] a E (g.aC ?_);refine g.fW (dE:=[(3,a1.S (dQ d))]) (ao:=[jq (dQ d)]) ?_ a E a E;have I:∀p∈dQ d,a7 .i64 p.1/\a7 .i64 p.2:=λp R=>by have:=List.all_eq_true.1 k p R;simp only[gv,cE,bA]at this;simp only[a7];omega
  have j:a8 r [(198,ev [qH (dQ d)] (ax (eH (iW (dQ d)))))]:=.cons (eI (I7 (dQ d) y I)) .nil;have aR:(iW (dQ d)).af=e5 d:=by unfold e5;rw[br k];exact(MW (dQ d) .nil bK).1
  have D:c (e5 d)<=100000:=by have:=CL (dQ d) [];unfold e5;grind
  rw[<-aR]at D⊢;clear aR;generalize iW (dQ d)=s at *;have K:=IK (r:=r) s y
  cases s<;>(
   refine cJ j a a (g.bV K.tocD [] a a a a (by simp[eH]) a a a bl a bl a λ_=>?_)
   exact cJ j a v (g.aw a))
def qC(b:m bE)(d:bE):Int:=match b.findIdx? (λe=>e==d)with
 |some a=>a
 |none=>-1
def ZS{d}{aa}(a:e<c d)(k:∀b,b<e->d.getD b []≠aa)(i:d.getD e []=aa):qC d aa=e:=by
 have:d.findIdx? (λg=>g==aa)=h e:=by rw[AE];refine⟨a,by grind,λb j=>?_⟩;grind
 simp[qC,this]
def ZU{d}{aa}(e:∀a,a<c d->d.getD a []≠aa):qC d aa=-1:=by have:d.findIdx? (λb=>b==aa)=n:=wC;simp[qC,this]
def ZT(d)(aa):decide (0<=qC d aa)=d.contains aa:=by unfold qC;grind
def U1(d)(aa):Y r 248 [bR.S d,b2 aa] [] (S (qC d aa)) []:=by
 refine Y.K func248 rfl λo=>?_;have s:=o.S 0 a;refine aZ a v (g.aL 0 (λb=>b<=c d/\∀e,e<b->d.getD e []≠aa) (λb:Nat=>[(0,bR.S d),(1,b2 aa),(7,S (c d)),(8,S b)]) (λ_=>[]) (λb=>c d-b) 0 a E a v a ⟨by omega,by omega⟩ ?_);rintro b ⟨q,i⟩;by_cases m:b<c d
 .have j:d.getD (b:Int).toNat bR.I=d.getD b []:=rfl;by_cases k:d.getD b []=aa
  .rw[ZS m i k];refine a6 [(9,f),(16,f)] a ?_ (g.aX (bW.zero a));simp[U,j,bA,hg,ba,a9];and_intros<;>first|exact k.symm|omega
  refine a6 [(9,f),(16,l)] a ?_ (g.aA (b+1) a ?_ v ⟨m,λe p=>?_⟩ y)
  .simp only[U,j,a7,bA,eX,ba,a9];and_intros<;>first|grind|omega
  .simp
  grind
 rw[ZU λe p=>i e y];exact Qn
abbrev St:bL:=en (e0 bR) eB (λa b=>S (qC a b)) λ_ _=>[]
def UL(d)(aa):Y r 202 [bR.S d,b2 aa] [] (bh (d.contains aa)) []:=by refine Y.K func202 rfl λe=>?_;have b:a8 r [(248,St)]:=.cons (.bm λd aa _=>U1 d aa) .nil;refine b_ b a (by simp[U];exact bR.U _) (g.aw a ?_);simp only[U,bR.E,a9];exact ZT d aa
abbrev GW:bL:=en (e0 bR) eB (λa b=>bh (a.contains b)) λ_ _=>[]
def adD:bM r 202 GW:=.bm λa b _=>UL a b
def kN(b:m ft)(d:Nat):Bool:=(aC d).all λa=>gv (b.getD a (0,0))&&(a==0||decide ((b.getD (a-1) (0,0)).1<(b.getD a (0,0)).1))
theorem KL{d}:kN d (e+1)=(kN d e&&(gv (d.getD e (0,0))&&(e==0||decide ((d.getD (e-1) (0,0)).1<(d.getD e (0,0)).1)))):=by unfold kN;rw[List.range_succ,List.all_append];simp
def KI{d}(i:kN d e=l):∀a,e<=a->kN d a=l:=by
 intro a g;obtain⟨b,rfl⟩:=Nat.exists_eq_add_of_le g;induction b with
 |zero=>exact i
 |succ b j=>grind[KL]
def U_(d):Y r 197 [a1.S d] [] (bh (kN d (c d))) []:=by
 refine Y.K func197 rfl λq=>?_;have u:=q.S 0 a;have b:a8 r [(203,Bw)]:=.cons MH .nil;refine b_ b a v (g.aL 0 (λe=>e<=c d/\kN d e=f) (λe:Nat=>[(0,a1.S d),(5,a1.S d),(6,S (c d)),(7,S e)]) (λ_=>[]) (λe=>c d-e) 0 a E a v a ⟨by omega,a⟩ ?_);rintro e ⟨s,m⟩;by_cases p:e<c d
 .have k:=KL (d:=d) (e:=e);rw[m,fp]at k;have j:d.getD (e:Int).toNat a1.I=d.getD e (0,0):=rfl;cases i:gv (d.getD e (0,0))with
  |false=>
   rw[KI (e:=e+1) M (c d) y];refine a_ b [(8,f),(14,f),(29,f)] a ?_ (g.aX (bW.zero a));simp_all
  |true=>
  rw[i,fp]at k;by_cases t:e=0
  .subst t;refine a_ b [(8,f),(14,l),(17,l),(29,l)] a ?_ (g.aA 1 a E v ⟨p,k⟩ y);simp only[U,j,i,a7,bA,dj,ba,a9];exact q4
  have o:d.getD ((e:Int)-1).toNat a1.I=d.getD (e-1) (0,0):=by rw[show((e:Int)-1).toNat=e-1 by omega];rfl
  by_cases w:(d.getD (e-1) (0,0)).1<(d.getD e (0,0)).1
  .refine a_ b [(8,f),(14,l),(17,f),(29,l)] a ?_ (g.aA (e+1) a E v ⟨p,by grind⟩ y);simp only[U,j,o,i,a7,bA,dj,ba,a9];exact q4
  rw[KI (e:=e+1) M (c d) y];refine a_ b [(8,f),(14,l),(17,f),(29,f)] a ?_ (g.aX (bW.zero a));simp only[U,j,o,i,a7,bA,ba,a9];exact q4
 obtain rfl:e=c d:=y;rw[m];refine a_ b [(8,l)] a E (g.aC ?_);exact b_ b a v (g.aw a)
def ID(d):Y r 11 [aA.S d,aA.S d] [] (bh f) []:=by
 refine Y.K func11 rfl λb=>?_;have j:=b.S 0 a;refine a6 [(10,l)] a E (g.aL 0 (λe=>e<=c d) (λe:Nat=>[(0,aA.S d),(1,aA.S d),(5,S e)]) (λ_=>[]) (λe=>c d-e) 0 a E a E a y ?_);intro e i;by_cases k:e<c d
 .exact OM
 exact QC
abbrev xx:bL:=en (e0 aA) (e0 aA) (λ_ _=>bh f) λa b=>[b=a]
def Er:bM r 11 xx:=.bm λa b d=>by have:b=a:=d;subst this;exact ID _
def Vt(d):Y r 29 [a1.S d,a1.S d] [] (bh f) []:=by
 refine Y.K func29 rfl λb=>?_;have j:=b.S 0 a;refine a6 [(10,l)] a E (g.aL 0 (λe=>e<=c d) (λe:Nat=>[(0,a1.S d),(1,a1.S d),(5,S e)]) (λ_=>[]) (λe=>c d-e) 0 a E a E a y ?_);intro e i;by_cases k:e<c d
 .exact OM
 exact QC
abbrev G2:bL:=en (e0 a1) (e0 a1) (λ_ _=>bh f) λa b=>[b=a]
def adL:bM r 29 G2:=.bm λa b d=>by have:b=a:=d;subst this;exact Vt _
abbrev KQ(a:b'):an:=.cells 70 [.c (.int .i64 a.1),.c (.S l 2 (c a.2) (bG.fn a.2))]
def Vu(b):Y r 30 [fA b,fA b] [] (bh f) []:=by
 refine Y.K func30 rfl λs=>?_;by_cases D:c b.2<=9223372036854775807
 .refine a6 [(10,l),(18,l)] a E (g.aL 2 (λd=>d<=c b.2) (λd:Nat=>[(2,aG 0 0),(3,aG 1 0),(5,S d)]) (λ_=>[KQ b,KQ b]) (λd=>c b.2-d) 0 a E a E a y ?_);intro d q;by_cases p:d<c b.2
  .refine bQ [(24,f),(37,l)] a ?_ (g.aA (d+1) a ?_ ?_ ?_ ?_)
   .simp[a7,p];omega
   .simp
   .simp
   .grind
   omega
  refine bQ [(24,l)] a bV (g.aC ?_);exact cu a v (g.aw a)
 exfalso;obtain⟨m,B,i,_⟩:=s;obtain⟨C,u⟩:∃w,bx [] m w (fA b):=by
  match B,i with
  |[j,_],i=>exact⟨j,i.1⟩
 obtain⟨t,_,e⟩:=u
 match t,e with
 |[j,o],e=>
  have:=e.2.1;cases(show Rd m.u o (.S l 2 (c b.2) (bG.fn b.2))from this)with
  |S x k z A F=>omega
abbrev G3:bL:=en (jz bG) (jz bG) (λ_ _=>bh f) λa b=>[b=a]
def adM:bM r 30 G3:=.bm λa b d=>by have:b=a:=d;subst this;exact Vu _
abbrev jU(a:eF):an:=.cells 74 [.c (.int .i64 a.1),.c (.S l 2 (c a.2) (cv.fn a.2))]
def Vv(o)(e:c o.2<=4000000):Y r 31 [iM o,iM o] [] (bh f) []:=by
 refine Y.K func31 rfl λi=>?_;have x:a8 r [(11,xx)]:=.cons Er .nil;refine a_ x [(10,l),(18,l)] a E (g.aL 2 (λb=>b<=c o.2) (λb:Nat=>[(2,aG 0 0),(3,aG 1 0),(5,S b)]) (λ_=>[jU o,jU o]) (λb=>c o.2-b) 0 a E a E a y ?_);intro b d;by_cases j:b<c o.2
 .refine bf x [(24,f),(39,l),(53,f)] a ?_ (g.aA (b+1) a ?_ ?_ ?_ ?_)
  .simp only[U,a7,fZ,f_,h0,bA,ba,a9];and_intros<;>first|exact aA.U _|omega
  .simp
  .simp
  .grind
  omega
 refine bf x [(24,l)] a bV (g.aC ?_);exact zL
abbrev G4:bL:=en (jz cv) (jz cv) (λ_ _=>bh f) λb a=>[a=b,c a.2<=4000000]
def adN:bM r 31 G4:=.bm λa b e=>by obtain⟨rfl,d⟩:b=a/\_:=e;exact Vv _ d
abbrev zf(a:cq):an:=.cells 27 [.c (.S l 2 (c a.1) (a2.fn a.1)),.c (.S l 2 (c a.2.1) (bj.fn a.2.1)),.c (.S l 2 (c a.2.2) (a1.fn a.2.2))]
def IE(b)(e:dN b):Y r 12 [b1 b,b1 b] [] (bh f) []:=by
 refine Y.K func12 rfl λm=>?_;have x:a8 r [(29,G2),(30,G3),(31,G4)]:=.cons adL (.cons adM (.cons adN .nil));have p:=e.a2;have o:=e.a7;refine bf x [(13,l),(21,l),(28,f)] a ?_ ?_
 .simp only[U,a7,fZ,f_,h0,bA,ba,a9];and_intros<;>first|exact a1.U _|omega
 refine g.aL 2 (λd=>d<=c b.1) (λd:Nat=>[(2,aG 0 0),(3,aG 1 0),(5,S d)]) (λ_=>[zf b,zf b]) (λd=>c b.1-d) 0 a E a E a y ?_;intro d i;by_cases j:d<c b.1
 .refine bf x [(35,f),(48,f)] a ?_ (g.aA (d+1) a ?_ ?_ ?_ ?_)
  .simp only[U,a7,bA,ba,a9];and_intros<;>first|exact bG.U _|omega
  .simp
  .simp
  .grind
  omega
 refine bf x [(35,l)] a bV (g.aC ?_);refine cJ x a v (g.aL 2 (λd=>d<=c b.2.1) (λd:Nat=>[(2,aG 0 0),(3,aG 1 0),(6,S d)]) (λ_=>[zf b,zf b]) (λd=>c b.2.1-d) 0 a E a E a y ?_);intro d i;by_cases j:d<c b.2.1
 .have w:=(e.bx _ (my j (0,[]))).1;have k:b.2.1.getD (d:Int).toNat bj.I=b.2.1.getD d (0,[]):=M;refine bf x [(54,f),(67,f)] a ?_ (g.aA (d+1) a ?_ ?_ ?_ ?_)
  .simp only[U,a7,k,cv.E,bA,ba,a9];and_intros<;>first|exact cv.U _|omega
  .simp
  .simp
  .grind
  omega
 refine bf x [(54,l)] a bV (g.aC ?_);exact zL
end
def F7{d}:∀{i:Nat},c (fv d i)=i->∀a,1<=a->a<i->d.getD a 0≠d.getD (a-1) 0
 |0,_,a,_,b=>by omega
 |i+1,b,a,e,j=>by
  have g:=w_ d i;rw[fv]at b;split at b
  .omega
  rename_i k;simp only[dn,gW]at b;by_cases m:a=i
  .grind
  exact F7 (i:=i) y a e y
def Mc(d):(jX d).Pairwise λa b=>a<=b:=by have:=List.pairwise_mergeSort (le:=λa b:Int=>decide (a<=b)) (λe g i j k=>by grind) (λe g=>by grind) d;exact this.imp λm=>by grind
def zd(d):(jX d).Perm d:=List.mergeSort_perm _ _
def SL(d):c (hK (jX d))=c d↔d.Nodup:=by
 rw[<-qT d,<-(zd d).nodup_iff];have s:=Mc d;generalize jX d=j at *;have m:∀{b:Nat} (e:b<c j),j.getD b 0=j[b]:=λ{b} e=>by grind
 constructor
 .intro e;have p:=F7 e;refine List.Pairwise.imp (R:=λt u=>t<u) (λe r=>by omega) (o7.2 λb g i a o=>?_);have k:=o7.1 s;have q:=p g y a;rw[m a,m y]at q;have v:=k (g-1) g y a y;by_cases r:b=g-1
  .grind
  have:=k b (g-1) i y y;omega
 intro e;unfold hK;rw[uD (bC _),c9];exact Fc
def Mg(k A):∀(g:m Int)d(e:Bool),(e=f->k∈d) ->
  ((A∈(g.foldl (gg k) (d,e)).1∨(A=k/\(g.foldl (gg k) (d,e)).2=l))↔((A∈d∨(A=k/\e=l))∨A∈g))
 |[],d,e,_=>by simp
 |j::g,d,e,s=>by
  rw[j_];have i:∀a b,gg k (d,e) j=(a,b)->(b=f->k∈a)/\((A∈a∨(A=k/\b=l))↔((A∈d∨(A=k/\e=l))∨A=j)):=λa b q=>by unfold gg at q;grind
  cases o:gg k (d,e) j with
  |mk a b=>
   obtain⟨r,p⟩:=i a b o;rw[Mg k A g a b r,p,fo,or_assoc]
def aav{d}{b a:Int}:a∈e6 d b↔a∈d∨a=b:=by have:=Mg b a d [] l E;unfold e6;grind
def Di{A}:∀{b a:m Int},A∈b.foldl e6 a↔A∈a∨A∈b
 |[],a=>by simp
 |d::b,a=>by rw[j_,Di,aav,fo,or_assoc]
def Km{d}{A}:A∈gG d↔A∈d_ d:=by unfold gG;rw[Di];simp
def Kl{A}:∀{e:m eF}{b:m Int},A∈e.foldl (λa d=>(gG d.2).foldl e6 a) b↔A∈b∨∃d∈e,A∈d_ d.2
 |[],b=>by simp
 |d::e,b=>by rw[j_,Kl,Di,Km,or_assoc];simp
def vu{d}{A}:A∈h8 d↔∃a∈d,A∈d_ a.2:=by unfold h8;rw[Kl];simp
def Kk{d}{A}:∀{w:Nat},w<=c d->(A∈fv d w↔A∈d.take w)
 |0,_=>by simp[fv]
 |w+1,e=>by
  have b:=Kk (d:=d) (A:=A) (w:=w) y;rw[fv,ie y 0];split
  .rename_i s;rw[b,gl];constructor
   .exact .inl
   rintro(a|a)
   .exact a
   simp only[gY]at a;subst a;rw[s.2,al,bI y];exact AF.2 ⟨w-1,by simp;omega,by simp⟩
  grind
def yD{o}{A}:A∈fW o↔A∈d_ o.2:=by unfold fW hK;rw[Kk (bC _),c9];exact(zd _).mem_iff
def aas{d}{k:Int->Bool}:(h8 d).all k=(aC (c d)).all λe=>!(fW (d.getD e (0,[]))).any λb=>!k b:=by
 rw[o5,List.all_eq_true,f'];constructor
 .intro i e a;rw[j8,List.any_eq_false];intro b g;have:=i b (vu.2 ⟨_,om a,yD.1 g⟩);simp[this]
 intro i b g;obtain⟨p,o,m⟩:=vu.1 g;obtain⟨e,a,rfl⟩:=AF.1 o;have j:=i e a;rw[al,bI a,iq,j8,List.any_eq_false]at j;simpa using j b (yD.2 m)
def yk{a:m α}(d:e<c a)(b:α):a.getD e b=a[e]:=M
def xd{ae:α->Int}{I}{d}:(∀a,a<c d->ka ae I d a=f)↔d.Pairwise λp q=>ae p<ae q:=by
 constructor
 .intro k;have key:∀g a e (b:a<c d) (i:e<c d),e=a+g->0<g->ae d[a]<ae d[e]:=by
   intro g;induction g with
   |zero=>grind
   |succ g r=>
    intro a e b i m _;have o:=k e i;rw[qb y,decide_eq_true_iff,yk y,yk i]at o;by_cases j:g=0
    .subst j;grind
    grind
  exact o7.2 λa e b i m=>key (e-a) a e b i y y
 intro k a b;by_cases j:a=0
 .exact bK
 rw[qb j,decide_eq_true_iff,yk y,yk b];exact(o7.1 k) (a-1) a y b y
def sH{d}{R:α->Bool}{I}:(∀a,a<c d->R (d.getD a I)=f)↔∀b∈d,R b=f:=by grind[List.mem_iff_getElem]
structure wN(i:Int)(R:b'):Prop where
 db:1<=R.1/\R.1<=99
 key:cK i=f
 len:1<=c R.2/\c R.2<=4
 jN:∀o∈R.2,right i o=f
 ic:R.2.Pairwise λo X=>o.1<X.1
def Dz{d}:h_ i d=f↔wN i d:=by
 rw[DA];simp[cE,bA,f'];have m:(∀b,b<c d.2->ic i d b=f)↔(∀g∈d.2,right i g=f)/\d.2.Pairwise λg o=>g.1<o.1:=by
  rw[<-sH (I:=(0,[])),<-xd (ae:=λg:cW=>g.1) (I:=(0,[]))];constructor
  .intro e;exact⟨λb a=>by have:=e b a;simp[ic,cE]at this;exact this.1,λb a=>by have:=e b a;simp only[ic,cE]at this;exact this.2⟩
  intro e b a;simp only[ic,cE];exact⟨e.1 b a,e.2 b a⟩
 rw[m];constructor
 .rintro⟨⟨⟨s,k⟩,w⟩,j,C⟩;exact⟨s,k,w,j,C⟩
 rintro⟨s,k,w,j,C⟩;grind
structure mh(i:Int)(b:cq):Prop where
 c1:∀R∈b.1,wN i R
 dI:b.1.Pairwise λR bc=>R.1<bc.1
 ax:(dg b.1).Nodup
 a7:∀o∈b.2.1,(1<=o.1/\o.1<=20)/\(ff i o b.1).isSome=f
 dq:b.2.1.Pairwise λo X=>o.1<X.1
 key:cK i=f
 eE:g8 b.2.2=f
 len:c b.1<=20
def vY{b}:hV i b=f↔mh i b:=by
 unfold hV;simp[cE,bA,f'];have r:(∀e,e<c b.1->nG i b.1 e=f)↔(∀g∈b.1,wN i g)/\b.1.Pairwise λg t=>g.1<t.1:=by
  rw[<-xd (ae:=λg:b'=>g.1) (I:=(0,[]))];have:(∀g∈b.1,wN i g)↔∀g∈b.1,h_ i g=f:=⟨λm g p=>Dz.2 (m g p),λm g p=>Dz.1 (m g p)⟩
  rw[this,<-sH (I:=(0,[]))];constructor
  .intro m;exact⟨λe a=>by have:=m e a;simp[nG,cE]at this;exact this.1,λe a=>by have:=m e a;simp[nG,cE]at this;exact this.2⟩
  intro m e a;simp[nG,cE];grind
 have u:(∀e,e<c b.2.1->lr i b e=f)↔(∀j∈b.2.1,(1<=j.1/\j.1<=20)/\(ff i j b.1).isSome=f)/\b.2.1.Pairwise λj v=>j.1<v.1:=by
  rw[<-xd (ae:=λg:eF=>g.1) (I:=(0,[]))];have:(∀j∈b.2.1,(1<=j.1/\j.1<=20)/\(ff i j b.1).isSome=f)↔∀j∈b.2.1,(decide (1<=j.1/\j.1<=20)&&(ff i j b.1).isSome)=f:=M;rw[this,<-sH (I:=(0,[]))];constructor
  .intro m;exact⟨λe a=>by have:=m e a;simp[lr,cE]at this⊢;grind,λe a=>by have:=m e a;simp[lr,cE]at this;exact this.1.2⟩
  intro m e a;have o:=m.1 e a;simp[lr,cE]at o⊢;grind
 rw[r,u];constructor
 .rintro⟨⟨⟨⟨⟨⟨o,C⟩,k⟩,w,A⟩,s⟩,d⟩,q⟩;exact⟨o,C,k,w,A,s,d,q⟩
 rintro⟨o,C,k,w,A,s,d,q⟩;grind
structure nZ(i:Int)(Q:dT):Prop extends mh i Q.1 where
 hz:∀o∈Q.1.2.1,∀k∈d_ o.2,k∈Q.2.1
 hq:∀k∈Q.2.2,∃R∈Q.1.1,R.1=k
 jh:Q.2.2.Pairwise λo X=>o<X
def v8{a}:ha i a=f↔nZ i a:=by
 unfold ha;simp only[cE,vY,f'];have q:(h8 a.1.2.1).all (λb=>a.2.1.contains b)=f↔∀k∈a.1.2.1,∀b∈d_ k.2,b∈a.2.1:=by
  rw[List.all_eq_true];constructor
  .intro g k w b o;simpa using g b (vu.2 ⟨k,w,o⟩)
  intro g b o;obtain⟨k,w,o⟩:=vu.1 o;grind
 have r:(∀e,e<c a.2.2->nz a.1.1 a.2.2 e=f)↔(∀b∈a.2.2,∃m∈a.1.1,m.1=b)/\a.2.2.Pairwise λk t=>k<t:=by
  rw[<-xd (ae:=λb:Int=>b) (I:=0)];have:(∀b∈a.2.2,∃m∈a.1.1,m.1=b)↔∀b∈a.2.2,(a.1.1.any λm=>m.1==b)=f:=E;rw[this,<-sH (I:=0)];constructor
  .intro g;exact⟨λe d=>by have:=g e d;simp only[nz,cE]at this;exact this.1,λe d=>by have:=g e d;simp[nz,cE]at this;exact this.2⟩
  intro g e d;simp[nz,cE];grind
 rw[q,r];constructor
 .rintro⟨⟨p,j,C⟩,s⟩;exact⟨s,p,j,C⟩
 rintro⟨s,p,j,C⟩;grind
def iT(b:Int)(a:m Int)(d:b'):b':=if d.1=b then hB d a else d
def fg(b:Int)(a:m Int)(d:m b'):m b':=(d.map (iT b a)).filter λe=>!e.2.isEmpty
def js(a:dT):dT:=match a.2.2 with
 |[]=>a
 |b::d=>((fg b a.2.1 a.1.1,a.1.2),a.2.1,d)
def X5{d:m cW}{a:m Int}{k}(e:k∈a):(d.filter λb=>a.contains b.1).find? (λb=>b.1==k)=d.find? (λb=>b.1==k):=M
def aa6{bS:Int}{a:m Int}{R}{k}(b:k∈a):gp i (iT bS a R) k=gp i R k:=by
 unfold iT;split
 .simp only[gp,hB,X5 b]
 simp
def Jf{i bS}{cr}{k}(b:k∈cr):∀a:m b',dM i (fg bS cr a) k=dM i a k
 |[]=>rfl
 |R::a=>by
  have g:=Jf (i:=i) (bS:=bS) b a;have e:=aa6 (i:=i) (bS:=bS) (R:=R) b;unfold fg dM at *;rw[mi,sA];split
  .grind
  rename_i d;have d:(iT bS cr R).2=[]:=M;have:gp i R k=n:=by rw[<-e];unfold gp;grind
  grind
def XZ{ab dr}{a}(d:∀b∈a,dM i ab b=dM i dr b):h5 i ab a=h5 i dr a:=by unfold h5;grind[List.map_congr_left]
def acx{ab dr}{o}(d:∀a∈d_ o.2,dM i ab a=dM i dr a):ff i o ab=ff i o dr:=by
 have s:∀b∈o.2,hj i ab b=hj i dr b:=λb j=>by unfold hj;rw[XZ λa x=>d a (List.mem_flatMap.2 ⟨b,j,x⟩)]
 unfold ff fH;grind[List.map_congr_left]
theorem yx{bS}{cr}{a}:(iT bS cr a).1=a.1:=by unfold iT hB;split<;>rfl
theorem C'{bS}{cr}{R}:List.Sublist (iT bS cr R).2 R.2:=by unfold iT hB;split<;>simp
def Mm{bS}{cr}{ab}{a}(b:a∈fg bS cr ab):∃d∈ab,a=iT bS cr d/\a.2≠[]:=by unfold fg at b;grind
def Kw{bS}{cr}:∀a:m b',List.Sublist (dg (fg bS cr a)) (dg a)
 |[]=>.refl _
 |d::a=>by
  have b:=Kw (bS:=bS) (cr:=cr) a;unfold fg dg at *;rw[mi,sA,sw];split
  .rw[sw];exact(C'.map _).append b
  grind
def nZ.step{b}(d:nZ i b):nZ i (js b):=by
 unfold js;split
 .exact d
 rename_i bS y p;have t:=d.hq;have s:=d.jh;rw[p]at t s;have w:∀e∈b.1.2.1,ff i e (fg bS b.2.1 b.1.1)=ff i e b.1.1:=λe k=>acx λq g=>Jf (d.hz e k q g) _;refine⟨⟨λx u=>?_,?_,d.ax.sublist (Kw _),λe k=>?_,d.dq,d.key,d.eE,?_⟩,d.hz,λq g=>?_,(iE.1 s).2⟩
 .obtain⟨R,m,rfl,r⟩:=Mm u;have j:=d.c1 R m;have o:=C' (bS:=bS) (cr:=b.2.1) (R:=R);refine⟨by rw[yx];exact j.db,j.key,⟨AB.2 r,fG o.length_le j.len.2⟩,λe k=>j.jN e (o.subset k),j.ic.sublist o⟩
 .show (fg bS b.2.1 b.1.1).Pairwise _;unfold fg;refine List.Pairwise.filter _ (wX.2 (d.dI.imp λv=>?_));grind[yx]
 .have:=d.a7 e k;grind
 .show (c (fg bS b.2.1 b.1.1))<=20;have:c (fg bS b.2.1 b.1.1)<=c b.1.1:=by unfold fg;grind
  exact fG this d.len
 obtain⟨R,m,rfl⟩:=t q (m_ _ g);have r:R.1≠bS:=by grind[List.pairwise_cons]
 refine⟨R,?_,a⟩;show R∈fg bS b.2.1 b.1.1;unfold fg;refine kD.2 ⟨k4.2 ⟨R,m,by unfold iT;grind⟩,?_⟩;have:=(d.c1 R m).len.1;grind
def r8{q}(j:dV q=f):rg q:=by
 obtain⟨o,_,_,u⟩:=EB.1 j;have r:∀a∈q,d6 a.2=f/\c a.2<=40:=λa d=>by have:=(o a d).2;simp[fD,cE,bA]at this;grind
 refine⟨by omega,λa d=>⟨(r a d).1,by grind⟩,?_⟩;have:∀b:m c',(∀a∈b,c a.2<=40)->c (eM b)<=40*c b:=by
  intro b;induction b with
  |nil=>exact bK
  |cons a v k=>
   intro e;have g:=k λi p=>e i (m_ _ p);have s:=e a jc;have t:=vG a.2;simp[eM,sw,dn,fl]at g⊢;omega
 grind
theorem aaA(bS i)(ab):(kP bS i ab).2.length=c ab:=Dj i ab
def xe{d:m eF}:∀a,d.Pairwise (λa g=>a.1<g.1)->(∀b∈d,a<=b.1/\b.1<=20)->(c d:Int)<=max 0 (21-a):=by
 induction d with
 |nil=>grind
 |cons b s i=>
  intro a o e;obtain⟨q,j⟩:=iE.1 o;have r:=e b jc;have:=i (b.1+1) j λp k=>⟨by grind,(e p (m_ _ k)).2⟩
  grind
def KZ(i):∀g a(b:m bE),(∀e∈b,cC e=f)->∀k∈ix i g a b,∃x d,a<=x/\x<a+c (ix i g a b)/\0<c d/\c d<=4/\(∀e∈d,cC e=f)/\k=kP x i d
 |0,_,_,_,k,j=>by exact bK
 |g+1,a,b,s,k,j=>by
  simp only[ix]at j⊢;split at j
  .rename_i p;rw[br p];rcases fo.1 j with rfl|j
   .grind
   obtain⟨x,d,r,q,t⟩:=KZ i g (a+1) (b.drop 4) (λe o=>s e (ss o)) k j;grind
  grind
def CM{a:m α}(d:c a≠0)(b:α):a.getD (c a-1) b∈a:=my y b
def DC(i):∀g a(b:m bE),∀e∈ix i g a b,a<=e.1
 |0,_,_,e,d=>by exact bK
 |g+1,a,b,e,d=>by
  simp only[ix]at d;split at d
  .rcases fo.1 d with rfl|d
   .exact p9 _
   have:=DC i g (a+1) (b.drop 4) e d;omega
  grind
def KX(i):∀(d:Nat) (a:Int)(b:m bE),(ix i d a b).Pairwise λe g=>e.1<g.1
 |0,_,_=>by simp[ix]
 |d+1,a,b=>by
  simp[ix];split
  .refine iE.2 ⟨λk j=>?_,KX i d (a+1) (b.drop 4)⟩;have:=DC i d (a+1) (b.drop 4) k j;exact bK
  simp
theorem aax{d}{o X}(a:X∈fC d o):X=o∨X∈d:=by
 induction d with
 |nil=>simp[fC]at a;grind
 |cons g e b=>
  simp only[fC]at a;grind
def aaw{ab}{X}(d:X∈kn i ab):∃a∈ab,X=(e7 i a,fB a):=by
 have key:∀(ab:m bE) b,X∈ab.foldl (λe a=>fC e (e7 i a,fB a)) b->X∈b∨∃a∈ab,X=(e7 i a,fB a):=by
  intro ab;induction ab with
  |nil=>grind
  |cons a j g=>
   grind[aax]
 rcases key ab [] d with d|d
 .cases d
 grind
section
variable {r:aj V}
structure oU(b:cq):Prop where
 size:dN b
 hI:b.1.Pairwise λx j=>x.1<j.1
 num:∀o∈b.2.1,-4000000<=o.1/\o.1<=4000000
 aN:∀o∈b.2.2,1<=o.1/\o.1<=2
def JJ{b}(j:oU b)(d):(∃a s,sj b d a s)∨pV b d:=by
 by_cases i:pV b d
 .exact .inr i
 refine .inl ?_;simp only[pV,Classical.not_forall,Classical.not_not]at i;obtain⟨a,e,m,v,w⟩:=i;refine⟨a,d.2.2.1.toNat,e,m,λg k u p=>?_,by omega,by omega⟩;have r:b.1.getD a (0,[])=b.1[a]:=M;have q:b.1.getD g (0,[])=b.1[g]:=M;rw[r]at m;rw[q]at p;rcases dY g a with o|t
 .have:=o7.1 j.hI g a k e o;omega
 have:=o7.1 j.hI a g e k y;omega
structure Rr(r:aj V)(b:cq)(d:dL)(az:cq):Prop where
 ev:dN az
 cB:Y r 32 [b1 b,ei d] [] (b1 az) []
 c8:Y r 69 [b1 b,ei d] [] (b1 az) []
theorem KJ{d}(g:kN d (c d)=f):(∀b∈d,gv b=f)/\d.Pairwise λb i=>b.1<i.1:=by
 have j:=f'.1 g;have k:∀a,a<c d->∀e,e<a->(d.getD e (0,0)).1<(d.getD a (0,0)).1:=by
  intro a;induction a with
  |zero=>grind
  |succ a m=>
   grind
 grind[List.getElem_of_mem,List.pairwise_iff_getElem]
def X_(d):∀a:m ft,(a++d).Pairwise (λb e=>b.1<e.1)->d.foldl ew a=a++d:=by
 induction d with
 |nil=>grind
 |cons b i g=>
  grind[abw]
def aem{d}(g:kN d (c d)=f)(k):(iW d).find k=lg d k:=by obtain⟨a,b⟩:=MW d .nil bK;have e:=X_ d [] (by grind[KJ]);rw[iW,CD b,a];exact eK (lg · k) e
def MY{q}(d:dV q=f):∀a∈q,fD a.2=f:=λa b=>((EB.1 d).1 a b).2
abbrev H_(a:m bE):z:=.n (.aq (.r 2 1 (c a) (bR.fn a)))
def W9(A C)(i)(q)(d)(m:cK i=f)(B:dV q=f)(N:kN d (c d)=f)(ad:c d<=4000000):
  Y r 165 [S i,bD.S q,a1.S d] (ii A C) (bR.S (gu i q d)) (ii A C):=by
 refine Y.K func165 rfl λaN=>?_;have P:a8 r [(119,df c8 (λi=>bh (cK i)) λ_=>[]),(46,rv),(197,df (e0 a1) (λd=>bh (kN d (c d))) λ_=>[])]:=.cons r2 (.cons t46 (.cons (.ba λd _=>U_ d) .nil));refine bf P [(15,l),(20,l),(25,l)] a ?_ ?_
 .simp only[U,m,bD.E,a1.E,r7,B,N];exact⟨a,a1.U _,a,bD.U _,a⟩
 have G:=KJ N;have Q:∀s∈d,a7 .i64 s.1/\a7 .i64 s.2:=λs a'=>by have:=G.1 s a';simp only[gv,cE,bA]at this;simp only[a7];omega
 have aR:=aem N;have ae:=I7 (r:=r) d ad Q;have V:∀o,Y r 200 [ax (eH (iW d)),S o] [] (S (lg d o)) []:=λo=>aR o▸Us (iW d) o
 clear aR;generalize iW d=F at *;have t:a8 r [(198,ev [qH d] (ax (eH F)))]:=.cons (eI ae) .nil;cases F<;>(
  refine cJ t a a (g.bK 8 9 1 a a ?_);refine g.dF 3 [0,7,29,30] (λb=>b<=c q) (λb:Nat=>[(8,H_ ((eM (q.take b)).foldl (fe i d) [])),(31,S b)]) (λb=>ii A C++[.r 9 1 (c ((eM (q.take b)).foldl (fe i d) [])) (bR.fn ((eM (q.take b)).foldl (fe i d) []))]) (λb=>c q-b) 0 a ?_ a ?_ a y ?_
  .simp[eM]
  .simp[eM]
  intro b Z;by_cases X:b<c q
  .have L:q.getD (b:Int).toNat bD.I=q.getD b ([],[]):=M;have I:q.getD b ([],[])∈q:=M;have ai:=MY B _ I;have w:=Gb X;have H:=Ga q (b+1);have D:=r8 B;have W:=(D.fl _ I).1;have ag:=D.all;have ah:=D.len;have R:=vH W;generalize q.getD b ([],[])=j at *;rw[w,dn]at H;have T:k_ j.2=cy j.2:=by unfold k_;grind
   have u:a8 r [(199,df eB (λaa=>bR.S (k_ aa)) λ_=>[])]:=.cons Eo .nil;refine bf u [(32,f)] a bw ?_;rw[L,T];refine g.dF 4 [0,7,29,30,31,37,38] (λe=>e<=c (cy j.2)) (λe:Nat=>[(8,H_ ((eM (q.take b)++(cy j.2).take e).foldl (fe i d) [])),(39,S e)]) (λe=>ii A C++[.r 9 1 (c ((eM (q.take b)++(cy j.2).take e).foldl (fe i d) [])) (bR.fn ((eM (q.take b)++(cy j.2).take e).foldl (fe i d) [])),.cells 114 [.c (.V j.1),.c (.V j.2)]]) (λe=>c (cy j.2)-e) 0 a E a E a y ?_;intro e ak;have z:=CK i d (eM (q.take b)++(cy j.2).take e) [];simp only[gA,dn,List.length_take]at z;by_cases aj:e<c (cy j.2)
   .have ab:(cy j.2).getD (e:Int).toNat bR.I=(cy j.2).getD e []:=M;have O:cC ((cy j.2).getD e [])=f:=R _ M;have x:(eM (q.take b)++(cy j.2).take (e+1)).foldl (fe i d) []=fe i d ((eM (q.take b)++(cy j.2).take e).foldl (fe i d) []) ((cy j.2).getD e []):=ig;generalize(eM (q.take b)++(cy j.2).take e).foldl (fe i d) []=du at *;generalize(cy j.2).getD e []=p at *;have a':=bR.a0 du p;refine bQ [(40,f)] a bw ?_;rw[ab];refine g.aF (Cj A C i p m O) [0,1] a (g.aF (V _) [] a ?_);have k:a8 r [(202,GW)]:=.cons adD .nil;by_cases K:lg d (e7 i p)=0
    .cases ar:du.contains p with
     |true=>
      rw[fe,bm M]at x;refine bf k [(49,f),(54,l)] a ?_ (g.aA (e+1) a ?_ ?_ ?_ ?_)
      .simp only[U,K,ar,a7,bR.E,fZ,bA,ba,a9];exact PJ
      .rw[x];simp
      .rw[x];simp
      .grind
      omega
     |false=>
      rw[fe,br M]at x;refine bf k [(49,f),(54,f)] a ?_ (g.aA (e+1) a ?_ ?_ ?_ ?_)
      .simp only[U,K,ar,a7,show s_.bytes=16 from a,bR.E,fZ,bA,ba,a9];exact PJ
      .exact Qy
      .exact Qy
      .grind
      omega
    rw[fe,bm M]at x;refine bf k [(49,l)] a bK (g.aA (e+1) a ?_ ?_ ?_ ?_)
    .rw[x];simp
    .rw[x];simp
    .grind
    omega
   have J:e=c (cy j.2):=y;refine bQ [(40,l)] a bw (g.aC ?_);refine cu a bK (g.aA (b+1) a ?_ ?_ ?_ ?_)
   .rw[w,J,c9];simp
   .rw[w,J,c9];simp
   .grind
   omega
  .obtain rfl:b=c q:=y;rw[c9];refine bQ [(32,l)] a E (g.aC ?_)
   refine cu a v (g.aS [0,1] a ?_ qt);simp[gu,eM])
abbrev adZ(a:b'×Bool):z:=.Q [.agg [.c (.int .i64 a.1.1),.c (.S l 2 (c a.1.2) (bG.fn a.1.2))],.aq (.c (.bool a.2))]
def gR(b:Int)(a:bE):cW:=(e7 b a,fB a)
def ts(a d:Int)(b:m bE):b':=(a,l6 (b.map (gR d)))
def l3(a d:Int)(b:m bE):b'×Bool:=if h_ d (ts a d b)=f then(ts a d b,f)else((0,[]),l)
theorem yW:∀b a,c (b.foldl hD a)=c a+c b
 |[],a=>by simp
 |d::b,a=>by rw[j_,yW b,Lo,fl];omega
def M5:∀d{b:m cW}{e:Nat},gi b->e<c b->gi (iX d b e)
 |0,_,_,a,_=>a
 |d+1,b,e,a,g=>by
  rw[iX];split
  .exact a
  split
  .exact M5 d (tO a y g) pR
  grind
theorem abp{d}{o}(b:gi d)(i:a7 .i64 o.1/\c o.2<=9223372036854775807):gi (hD d o):=by
 refine M5 _ (λg e=>?_) E;rcases gl.1 e with a|a
 .exact b g a
 grind
def abg{d}(a:gi d)(b:0<c d):gi (g9 d):=
 B4 _ _ (tO a b y) pR pR
theorem Kq{a}(b:cC a=f):a7 .i64 (gR i a).1/\(gR i a).2.length<=9223372036854775807:=by
 have d:=b;simp only[cC,cE,bA]at d;have e:=sC (ga a*(2*i+1)+i*7919) (show(999999999989:Int)≠0 by decide);have g:=sv (ga a*(2*i+1)+i*7919) (show(0:Int)<999999999989 by decide);refine⟨?_,?_⟩
 .show a7 .i64 (e7 i a);simp only[a7,e7];omega
 show c (fB a)<=_;unfold fB e3;grind
def JX(i)(a:m bE)(g:∀d∈a,cC d=f):gi ((a.map (gR i)).foldl hD []):=by
 have:∀(b:m bE) e,(∀d∈b,cC d=f)->gi e->gi ((b.map (gR i)).foldl hD e):=by
  intro b;induction b with
  |nil=>grind
  |cons d k j=>grind[abp,Kq]
 exact this a [] g (by simp[gi])
abbrev Lf(e d:av×Z)(g:Nat)(a:fj)(b:m cW):m an:=ii e d++[.cells 70 [.c (.int .i64 0),.c (.S f 0 0 λ_=>[])],ir g a (c b),aE a (c b) b]
abbrev DE(b:Int)(a:m cW):m an:=[.cells 70 [.c (.int .i64 b),.r 6 2 (c a) (bG.fn a)],.r 103 2 (c a) (bG.fn a)]
def IR(u t:av×Z)(bS i)(ab)(H:a7 .i64 bS)(bU:cK i=f)(K:∀w∈ab,cC w=f)(aw:c ab<=4):
  Y r 167 [S bS,S i,bR.S ab] (ii u t) (adZ (l3 bS i ab)) (ii u t):=by
 refine Y.bl bd func167 rfl rfl rfl λau=>?_;refine bQ [(1000002,f)] a v (g.jE 8 3 103 2 a a λs ak=>?_);refine cu a v (g.dF 5 [0,1,6,8,14,15] (λj:Nat×fj=>j.1<=c ab) (λj=>[(16,S j.1)]) (λj=>Lf u t s j.2 (((ab.take j.1).map (gR i)).foldl hD [])) (λj=>c ab-j.1) (0,.nil ak) a E a ?_ a y ?_)
 .simp[gn]
 rintro⟨e,bO⟩ J;simp only at J;by_cases q:e<c ab
 .have G:ab.getD (e:Int).toNat bR.I=ab.getD e []:=M;have aa:cC (ab.getD e [])=f:=K _ M;have L:((ab.take (e+1)).map (gR i)).foldl hD []=hD (((ab.take e).map (gR i)).foldl hD []) (gR i (ab.getD e [])):=ig;have an:c (((ab.take e).map (gR i)).foldl hD [])=e:=by grind[yW]
  have I:=JX i (ab.take e) λw R=>K w (hf R);generalize ab.getD e []=w at *;generalize((ab.take e).map (gR i)).foldl hD []=d at *;refine bf (.cons zl .nil:a8 r [(206,lI)]) [(17,f)] a bw ?_;rw[G];refine g.aF (Cj u t i w bU aa) [0,1] a (cJ (.cons zl .nil:a8 r [(206,lI)]) a v (g.a_ (UP s bO I y (o:=gR i w) (Kq aa)) [3,4] a bl λO=>?_));have X:=Lo d (gR i w);refine cu a bK (g.aA (e+1,O) a E dA M ?_);grind
 obtain rfl:e=c ab:=y;rw[c9];refine bQ [(17,l)] a E (g.aC ?_);have ar:c ((ab.map (gR i)).foldl hD [])<=4:=by grind[yW]
 have I:=JX i ab K;have ae:l6 (ab.map (gR i))=[]++kR (c ((ab.map (gR i)).foldl hD [])) ((ab.map (gR i)).foldl hD []):=by rw[l6,yW,p8,gA,cV]
 refine cu a v (g.cl 5 1 103 2 (bG.fn []) a a ?_);refine g.dF 7 [1,6,8,11] (λj:m cW×fj×m cW=>gi j.1/\c j.1+c j.2.2<=4/\l6 (ab.map (gR i))=j.2.2++kR (c j.1) j.1) (λj=>[]) (λj=>Lf u t s j.2.1 j.1++DE bS j.2.2) (λj=>c j.1) ((ab.map (gR i)).foldl hD [],bO,[]) a E a E a ⟨I,by grind,ae⟩ ?_;rintro⟨q,bO,b⟩ ⟨Q,ag,C⟩;simp only at Q ag C;refine cu a v (g.aO (a0.dS a a) a a ?_);refine g.aq (aV.eD bd 3 a a a a a (tK bO _) a) a ?_;refine g.aF (Cb bO (c q) q) [4] a ?_;by_cases aj:c q=0
 .rw[aj,kR,h1]at C;subst C;refine bQ [(37,l)] a dA (g.aC ?_);have T:a8 r [(152,Bs)]:=.cons MD .nil;have aq:c (l6 (ab.map (gR i)))<=4:=y;cases ad:h_ i (ts bS i ab)with
  |false=>
   have x:h_ i (bS,l6 (ab.map (gR i)))=l:=ad;have F:l3 bS i ab=((0,[]),l):=by unfold l3;grind
   rw[F];refine bf T [(50,f)] a QL (g.cq () [0,1] ?_ qt);simp
  |true=>
   have x:h_ i (bS,l6 (ab.map (gR i)))=f:=ad;have F:l3 bS i ab=(ts bS i ab,f):=by unfold l3;grind
   rw[F];refine bf T [(50,l)] a QL (g.cq () [0,1] ?_ qt);simp[ts]
 obtain⟨k,B⟩:∃k,c q=k+1:=⟨c q-1,by omega⟩
 refine bQ [(37,f),(1000009,f)] a bw (g.iN (JD (e:=4) (k:=c q) (bO:=bO) (d:=q) a y) λP=>?_);obtain⟨A,p,rfl,V⟩:=P;rw[B]at V;have R:=UO (r:=r) s A p Q B y V;have ai:=abg Q y;have X:c ((g9 q).take k)=k:=by grind[Lg]
 have aN:l6 (ab.map (gR i))=(b++[(g9 q).getD k (0,[])])++kR k ((g9 q).take k):=by rw[C,B,kR,bm y,B];simp
 have ao:gi ((g9 q).take k):=λo D=>ai o (hf D);show g r _ _ _ _ _ (ii u t++[.cells 70 [.c (.int .i64 0),.c (.S f 0 0 λ_=>[])],ir s (.row A p) (c q),aE (.row A p) (c q) q]++DE bS b);rw[B];generalize(g9 q).getD k (0,[])=o at *;generalize(g9 q).take k=W at *;refine g.eI (ι:=Unit) b6 4 7 10 (λi=>ay i 3) (λi=>([aG 5 1,.n (.aq (.r 6 2 (c b) (bG.fn b))),g2 (.pointer (h ⟨s,0,n⟩)),sU s]:m z).getD i .any) (λ_ i=>([.any,.any,.any,.any,sT o,xR o,ax (.S f 2 1 λe=>([[.int .i64 o.1,.V o.2]]:m (m N)).getD e [])]:m z).getD i .any)
  (λ_=>ii u t++[.cells 70 [.c (.int .i64 0),.c (.S f 0 0 λ_=>[])],ir s (.row A p) k,aE (.row A p) k W]++DE bS b)
  rfl rfl rfl rfl rfl rfl rfl (λi q=>by have:=fc q;omega) rfl
  ⟨aV.y,aV.y,aV.y,aV.y,v,v,v,v,v,v,v⟩
  (λ_=>⟨aV.y,aV.y,aV.y,aV.y,v,aV.a1 (j1 a) (a0.ga (ah:=[.int .i64 o.1,.V o.2]) bd a a a a),aV.y,v⟩)
  (dx.dk R.tocD [3,4] a a a a a a a bl a bl) λ_=>?_
 have D:=bG.a0 b o;refine cu a ?_ (g.aA (W,.row A p,b++[o]) a ?_ ?_ ?_ ?_)
 .simp only[U,show lX.bytes=24 from a,ba];omega
 .simp
 .simp only[X,U.Y,U,dn,fl,gA,ba,a9];and_intros<;>first|exact bt.same|exact D|rfl
 .grind
 grind
abbrev ad9(a:eF):z:=.Q [.agg [.c (.int .i64 a.1),.c (.S l 2 (c a.2) (cv.fn a.2))],.aq (.c (.bool f))]
abbrev Mb(e d:av×Z)(b:Int)(a:m m2):m an:=ii e d++[.cells 74 [.c (.int .i64 0),.c (.S f 0 0 λ_=>[])],.cells 74 [.c (.int .i64 b),.r 4 2 (c a) (cv.fn a)],.r 105 2 (c a) (cv.fn a)]
abbrev acz(b:c')(a:m Int):m an:=[.cells 114 [.c (.V b.1),.c (.V b.2)],.cells 105 [.c (.V b.1),.r 7 1 (c a) (aA.fn a)],.r 3 1 (c a) (aA.fn a)]
def W_(C p)(bS i)(q)(ah:1<=bS/\bS<=99)(s:cK i=f)(x:dV q=f):
  Y r 168 [S bS,S i,bD.S q] (ii C p) (ad9 (gS bS i q)) (ii C p):=by
 refine Y.bl bd func168 rfl rfl rfl λad=>?_;have G:a8 r [(119,df c8 (λi=>bh (cK i)) λ_=>[]),(46,rv)]:=.cons r2 (.cons t46 .nil);refine bf G [(15,l),(19,l),(24,l),(29,l)] a ?_ ?_
 .simp only[U,s,bD.E,r7,x,dj];and_intros<;>first|exact bD.U _|rfl|omega
 refine g.cl 3 1 105 2 (cv.fn []) a a ?_;refine g.dF 5 [1,6,8,33,34] (λb=>b<=c q) (λb:Nat=>[(35,S b)]) (λb=>Mb C p bS (oy i (q.take b))) (λb=>c q-b) 0 a E a E a y ?_;intro b K;by_cases ag:b<c q
 .have X:q.getD (b:Int).toNat bD.I=q.getD b ([],[]):=M;have A:q.getD b ([],[])∈q:=M;have D:=r8 x;have I:=D.fl _ A;have ab:=MY x _ A;have z:=D.len;have T:=vH I.1;have aa:=vG (q.getD b ([],[])).2;have B:oy i (q.take (b+1))=oy i (q.take b)++[ox i (q.getD b ([],[]))]:=ig;have O:c (oy i (q.take b))=b:=M;generalize q.getD b ([],[])=d at *;generalize oy i (q.take b)=j at *;have Z:k_ d.2=cy d.2:=by unfold k_;grind
  have w:a8 r [(199,df eB (λV=>bR.S (k_ V)) λ_=>[])]:=.cons Eo .nil;refine bf w [(36,f)] a bw ?_;rw[X,Z];refine g.cl 6 1 3 1 (aA.fn []) a a ?_;refine g.dF 8 [1,6,8,10,11,33,34,35,44,45] (λe=>e<=c (cy d.2)) (λe:Nat=>[(46,S e)]) (λe=>Mb C p bS j++acz d (ko i ((cy d.2).take e))) (λe=>c (cy d.2)-e) 0 a E a E a y ?_;intro e L;by_cases ae:e<c (cy d.2)
  .have k:(cy d.2).getD (e:Int).toNat bR.I=(cy d.2).getD e []:=M;have R:cC ((cy d.2).getD e [])=f:=T _ M;have Q:ko i ((cy d.2).take (e+1))=ko i ((cy d.2).take e)++[e7 i ((cy d.2).getD e [])]:=ig;have H:c (ko i ((cy d.2).take e))=e:=M;generalize(cy d.2).getD e []=t at *;generalize ko i ((cy d.2).take e)=o at *;have u:=aA.a0 o (e7 i t);refine bQ [(47,f),(1000011,f)] a bw ?_
   rw[k];refine g.gh b6 [aG 6 1,.n (.aq (.r 7 1 (c o) (aA.fn o))),S i,b2 t,S (e7 i t),ax (.S f 1 1 λb=>([[.int .i64 (e7 i t)]]:m (m N)).getD b [])] 6 a a a a a ⟨aV.y,aV.y,aV.y,aV.y,
    aV.dU (dx.dk (Cj C p i t s R).tocD [0,1] a a a a a a a bl a bl),aV.y,v⟩ ?_
   refine cu a ?_ (g.aA (e+1) a ?_ ?_ ?_ ?_)
   .simp only[U,a7,show ec.bytes=8 from a,ba,a9];exact fr
   .simp
   .simp only[Q,U.Y,U,dn,fl,gA,ba,a9];and_intros<;>first|exact bt.same|exactλ_ _=>rfl|exact u|rfl|omega
   .grind
   omega
  have W:e=c (cy d.2):=y;rw[W,c9];have u:=cv.a0 j (ox i d);have F:c j+1=c (j++[ox i d]):=E;have J:cv.a8 (ox i d)=[N.V d.1,N.S l 1 (c (ko i (cy d.2))) (aA.fn (ko i (cy d.2)))]:=rfl;rw[J,<-B]at u;rw[<-B]at F;refine bQ [(47,l)] a E (g.aC ?_);refine cu a PE (g.aA (b+1) a E ?_ ?_ ?_)
  .simp only[U.Y,U,ba,a9];and_intros<;>first|exact bt.same|exact u|exact F|rfl
  .grind
  omega
 obtain rfl:b=c q:=y;rw[c9];refine bQ [(36,l)] a E (g.aC ?_);refine cu a v (g.cq () [0,1] ?_ qt);simp[gS]
end
section
variable {r:aj V}[r.b']
abbrev FN(b:Nat):={a:m c'×Nat // dV a.1=f/\b<=a.2/\a.2<=b+400}
end
section
variable {r:aj V}
set_option maxRecDepth 20000 in
def Wi(A)(b:Nat->Int)(k:Bytes b)(e:Nat)(i:e<=4000000)(j:A<=1048576)(d)(p:1<=c d/\c d<=1000):
  Y r 63 [aG 0 0,bR.S d] [ef A b e] (b2 (d.getD (qO A b e (c d)).toNat [])) [ef A b (e+1)]:=by refine Y.K func63 rfl λm=>?_;refine aZ a v (g.aF (IU A b k e (c d) i j y) [0] a ?_);have o:=K7 A b e (c d) y;exact aZ a bV (g.aS [0] a oR nj)
end
end R1
def bk.die{E:aj P}{I}{args}{W i}{F:Nat->m N}{o}{r:ι->Nat->m N}{S:ι->Nat}(J:bk E I args [.h W i k F] (λ_=>cz 0 o) (λA=>[.h W i (S A) (r A)])):Y E I args [.h W i k F] (cz 0 o) [.x]:=
 ⟨J.1,λT B z x Q q w=>J.2 T B z x Q q λA s K j y d g b=>w s K j y (by
  obtain⟨D,e,_,_⟩:cx _ _ _ (.R 0 o):=d;exact(⟨D,e,by simp,λ_ _ _ _ R=>by grind⟩:cx [.x] j K (.R 0 o))) g.ec
  ⟨b.size,b.a6,b.mem,b.bE,b.bT,λC M L aE u=>by
   obtain⟨O,p,e,t,U⟩:=b.box C M L aE u;cases C with
   |zero=>simp at aE;subst aE;exact⟨.x,p,a,t,v⟩
   |succ C=>grind,b.os,b.tape,b.output,b.own⟩⟩
namespace R1
variable {r:aj V}
def IB(b):Y r 158 [BX b] [] (bh (hx b)) []:=by
 refine Y.K func158 rfl λj=>?_;have d:a8 r []:=.nil;unfold hx;by_cases e:b.1=1
 .by_cases jH:1<=b.2
  .exact a_ d [(6,f),(11,f),(16,f)] a bw (g.aw a dA)
  exact a_ d [(6,f),(11,f),(16,l)] a bw (g.aw a uc)
 by_cases i:b.1=2
 .by_cases jH:1<=b.2
  .exact a_ d [(6,l),(11,f),(16,f)] a bw (g.aw a dA)
  exact a_ d [(6,l),(11,f),(16,l)] a bw (g.aw a uc)
 exact a_ d [(6,l),(11,l),(16,l)] a bw (g.aw a bw)
def VS(b):Y r 157 [BX b] [] (bh (!hx b)) []:=by refine Y.K func157 rfl λe=>?_;have d:a8 r [(158,df p3 (λb=>bh (hx b)) λ_=>[])]:=.cons (.ba λb _=>IB b) .nil;exact b_ d a v (g.aw a)
def aaj(d):g8 d=(decide (c d<=9)&&!d.any λa=>!hx a):=by
 have:(aC (c d)).all (λb=>hx (d.getD b (0,0)))=!d.any λa=>!hx a:=by rw[o5,f',j8,List.any_eq_false];grind[List.mem_iff_getElem]
 rw[g8,this,Bool.and_comm]
def VT(d):Y r 122 [a1.S d] [] (bh (g8 d)) []:=by
 refine Y.K func122 rfl λj=>?_;have e:=UF (r:=r) d 157 (λu=>!hx u) λi _=>VS i;have b:a8 r [(106,ev [a1.S d,ax (.fn (.func 157) [] [])] (bh (d.any λu=>!hx u)))]:=.cons (eI e) .nil;rw[aaj];by_cases u:c d<=9
 .exact a_ b [(6,f)] a ⟨a,fm y⟩ (g.aw a gV)
 exact a_ b [(6,l)] a bV (g.aw a bw)
def tP:bM r 122 n7:=.ba λa _=>VT a
def Wo(d)(m:c d.2<=4000000):Y r 188 [fA d] [] (aA.S (d.2.map (·.1))) []:=by
 refine Y.K func188 rfl λo=>?_;refine a6 [(1000002,f)] a v (g.bK 3 3 1 a a ?_);refine aZ a v (g.aL 2 (λb=>b<=c d.2) (λb:Nat=>[(1,aG 0 0),(3,.n (.aq (.r 1 1 b (aA.fn ((d.2.take b).map (·.1)))))),(7,bG.S d.2),(8,S (c d.2)),(9,S b)]) (λb=>[xv d,.r 3 1 b (aA.fn ((d.2.take b).map (·.1)))]) (λb=>c d.2-b) 0 a E a E a y ?_);intro b k;by_cases i:b<c d.2
 .have j:d.2.getD (b:Int).toNat bG.I=d9 d b:=M;have x:(d.2.take (b+1)).map (·.1)=(d.2.take b).map (·.1)++[(d9 d b).1]:=ig;have e:c ((d.2.take b).map (·.1))=b:=M;have ai:=aA.a0 ((d.2.take b).map (·.1)) (d9 d b).1;rw[e]at ai;refine a6 [(10,f)] a ?_ (g.aA (b+1) a ?_ ?_ i y)
  .simp only[U,a7,show ec.bytes=8 from a];grind
  .exact OY
  exact OY
 obtain rfl:b=c d.2:=y;rw[c9];refine a6 [(10,l)] a E (g.aC ?_);exact wy
abbrev He:bL:=df (jz bG) (λa=>aA.S (a.2.map (·.1))) λa=>[c a.2<=4000000]
def ad2:bM r 188 He:=.ba λb a=>Wo b a
def aaE(ab)(e):c (dg (ab.take e))<=c (dg ab):=by have:dg ab=dg (ab.take e)++dg (ab.drop e):=Rm;grind
abbrev abT(a:m Int):z:=cz 0 (.S (c a) 1 0 (c a))
def IQ(ab)(q:∀j∈ab,c j.2<=4000000)(z:c (dg ab)<=4000000):Y r 153 [a2.S ab] [] (abT (dg ab)) [jd (c (dg ab)) (dg ab)]:=by
 refine Y.K func153 rfl λs=>?_;have w:=s.S 0 a;have d:a8 r [(188,He)]:=.cons ad2 .nil;refine a_ d [(1000002,f)] a v (g.fb 3 3 1 (aA.fn []) a ?_);refine b_ d a v (g.aL 1 (λb=>b<=c ab) (λb:Nat=>[(3,cz 0 (.S (c (dg (ab.take b))) 1 0 (c (dg (ab.take b))))),(6,a2.S ab),(7,S (c ab)),(8,S b)]) (λb=>[jd (c (dg (ab.take b))) (dg (ab.take b))]) (λb=>c ab-b) 0 a EU a (by simp[bt,dg]) a y ?_);intro b p;by_cases i:b<c ab
 .have C:ab.getD (b:Int).toNat a2.I=ab.getD b (0,[]):=M;have e:=Kx i;have k:=aaE ab (b+1);have x:=q _ (om (I:=(0,[])) i);generalize ab.getD b (0,[])=j at *;rw[e]at k;generalize dg (ab.take b)=m at *;have o:=aA.g' m (j.2.map (·.1)) _ a;simp only[dn,k3]at k o;refine a_ d [(9,f)] a ?_ (g.aA (b+1) a ?_ ?_ i y)
  .simp only[U,C,a7,bG.E,bG.U,k3,show ec.bytes=8 from a];grind
  .rw[e];simp only[U.Y,U,C,bG.E,dn,k3,ba,a9];and_intros<;>first|exact bt.same|rfl|omega
  rw[e];simp only[U.Y,U,C,bG.E,dn,k3,ba,a9];grind
 obtain rfl:b=c ab:=y;rw[c9];refine a_ d [(9,l)] a E (g.aC ?_);refine b_ d a v (g.aS [0] a ?_ (λu t=>absurd t E));simp
def V'(ab)(b:∀e∈ab,c e.2<=4000000)(d:c (dg ab)<=4000000):Y r 153 [a2.S ab] [] (aA.S (dg ab)) []:=
 Y.bM (aM:=[]) (W:=3) (i:=1) (k:=c (dg ab)) (T:=aA.fn (dg ab)) (IQ ab b d) a E a (bC _)
end R1
namespace R1
section
variable {r:aj V}
def IY(b):Y r 118 [b1 b] [] (b1 b) []:=by refine Y.bD func118 rfl rfl rfl λe=>?_;refine aZ a E ?_;refine g.freeze 2 1 a a a ?_;exact g.cp bd [] a E a a a (λi d=>absurd d E)
abbrev Hk:bL:=df o9 (λa=>b1 a) λ_=>[]
def ad8:bM r 118 Hk:=.ba λa _=>IY a
abbrev za(a:cq):an:=.cells 156 [.c (.S l 2 (c a.1) (a2.fn a.1)),.c (.S l 2 (c a.2.1) (bj.fn a.2.1)),.c (.S l 2 (c a.2.2) (a1.fn a.2.2))]
structure nY(b:cq):Prop extends pZ b where
 c1:∀R∈b.1,c R.2<=4000000
 e_:c (dg b.1)<=4000000
def tt(b:Int)(a:cq):Bool:=(aC (c a.1)).all (nG b a.1)&&decide (c a.1<=20)&&decide (dg a.1).Nodup
def Wr(i)(b)(bU:cK i=f)(o:nY b):Y r 120 [b1 b,S i] [] (bh (tt i b)) []:=by
 refine Y.K func120 rfl λX=>?_;have z:=o.fO;have R:=o.c1;have T:=V' (r:=r) b.1 o.c1 o.e_;have p:a8 r [(152,Bs)]:=.cons MD .nil;refine b_ p a v ?_;unfold tt;refine g.aL 1 (λe=>e<=c b.1/\∀C,C<e->nG i b.1 C=f) (λe:Nat=>[(1,S i),(2,aG 0 0),(9,a2.S b.1),(10,S (c b.1)),(11,S e)]) (λ_=>[za b]) (λe=>c b.1-e) 0 a E a E a ⟨by omega,by omega⟩ ?_;rintro e ⟨Q,w⟩;by_cases u:e<c b.1
 .have bz:b.1.getD e a2.I=b.1.getD e (0,[]):=rfl;have q:b.1.getD (e-1) a2.I=b.1.getD (e-1) (0,[]):=rfl;have x:nG i b.1 e=(h_ i (b.1.getD e (0,[]))&&ka (·.1) (0,[]) b.1 e):=rfl;have J:=qb (ae:=λs:b'=>s.1) (I:=(0,[])) (d:=b.1) (e:=e);have j:=R _ (om (I:=(0,[])) u);generalize b.1.getD e (0,[])=s at *;generalize b.1.getD (e-1) (0,[])=A at *;cases t:h_ i s with
  |false=>
   rw[t,sD]at x;refine a_ p [(12,f),(20,f),(35,f)] a ?_ (g.aX (bW.zero a ?_))
   .simp[-al,bz,bU,j,t,bG.E,bG.U];omega
   rw[kE u x];simp
  |true=>
   rw[t,fp]at x;by_cases K:e=0
   .subst K;refine a_ p [(12,f),(20,l),(23,l),(35,l)] a ?_ (g.aA 1 a E E ⟨u,iG w bK⟩ y);simp[-al,bz,bU,j,t,bG.E,bG.U,a7];omega
   have J:=J K;by_cases N:A.1<s.1
   .refine a_ p [(12,f),(20,l),(23,f),(33,l),(35,l)] a ?_ (g.aA (e+1) a E E ⟨u,iG w M⟩ y);exact PW
   refine a_ p [(12,f),(20,l),(23,f),(33,f),(35,f)] a PW (g.aX (bW.zero a ?_));exact j2
 obtain rfl:e=c b.1:=y;rw[f'.2 w,fp];refine a_ p [(12,l)] a E (g.aC ?_);refine b_ p a v (g.aF (IQ b.1 o.c1 o.e_) [] a (b_ p a v (g.aF (Co (dg b.1) o.e_) [1] a ?_)));have W:=SL (dg b.1);have F:=(Iq (r:=r) (jX (dg b.1)) (by rw[qT];exact o.e_)).die;rw[qT]at F;have V:=HJ (jX (dg b.1));rw[qT]at V;have O:=o.e_;generalize hK (jX (dg b.1))=k at *;generalize jX (dg b.1)=B at *;have hJ:a8 r [(155,k6 [dJ (c (dg b.1))] [jd (c (dg b.1)) B] (cz 0 (.S (c (dg b.1)) 1 0 (c k))) [.x]),(153,ev [a2.S b.1] (aA.S (dg b.1)))]:=.cons (l7 F) (.cons (eI T) .nil);refine a_ hJ [(1000009,f)] a v ?_;by_cases aa:c b.1<=20
 rotate_left
 .refine a_ hJ [(46,l)] a bV (g.aw a ?_);exact bw
 have D:(c b.1:Int)<=20:=y;generalize Z:dg b.1=m at *;refine g.df (ι:=Unit) b6 6 (λe=>match ay e 5 with|true=>f|false=>match af e 8 with|true=>f|false=>af e 9) (λe=>[aG 0 0,a2.S b.1,S (c b.1),bh (decide ((c b.1:Int)<=20)),bh f,cz 1 (.S (c m) 1 0 (c m)),.any,.any,aG 0 0,a2.S b.1].getD e .any)
  (λ_ e=>[.any,.any,.any,.any,.any,.any,cz 1 (.S (c m) 1 0 (c k)),S (c k),.any,.any,aA.S m,S (c m),bh ((c k:Int)==c m),bh ((c k:Int)==c m),bh ((c k:Int)==c m)].getD e .any) (λ_=>[za b,.x]) a a a a a a ?_ ?_ ?_ ?_
 .exact⟨.y,.y,.y,.y,.eval bd hJ (bg:=[(46,f)]) a (fm D),.y,v,v,.y,.y,v,v,v,v,v,v⟩
 .intro _;exact⟨.y,.y,.y,.y,.eval bd hJ (bg:=[(46,f)]) a (fm D),.y,v,.y,.y,.y,.eval bd hJ (bg:=[]) a a,.y,.y,.y,.y,v⟩
 .exact .dg (ee bd hJ (bg:=[]) (ao:=h [za b,.x]) a ⟨a,a⟩)
 intro _;refine b_ hJ a v (g.aw a ?_);have:((c k:Int)==c m)=decide m.Nodup:=M;exact bK
def iw:m (Int×Int)->N
 |[]=>.bk
 |a::b=>.O [.int .i64 a.1,.int .i64 a.2,iw b]
abbrev vW(a:m (Int×Int)):N:=.S l 2 (c a) (a1.fn a)
def TA(b:m (Int×Int)):Y r 194 [a1.S b] [] (ax (.fn (.func 243) [] [.O [vW b]])) []:=by refine Y.K func194 rfl λd=>?_;refine gJ [] 5 a v ?_;refine g.freeze 1 0 a a a ?_;refine aZ a v (g.aw a ?_);rfl
def TF(k:m (Int×Int))(x:c k<=4000000){d:Nat}{b:bH}{p:Loop}{s:an}(o:Nat->an)(t:s=o (c k))(aE:∀w,o w≠.bn)(e:∀i,i<c k->iC (ι:=Unit) r 1 [S i,.n (.agg [.c (.int .i64 (k.getD i (0,0)).1),.c (.int .i64 (k.getD i (0,0)).2)])] [o (i+1),.loop d b p] f (λ_=>[o i,.loop d b p])):
  bk (ι:=Unit) r 243 [.n (.aq (.aR 1)),ax (.O [vW k])] [s,.loop d b p] (λ_=>.Q []) (λ_=>[o 0,.loop d b p]):=by
 subst t;refine bk.bP func243 rfl rfl rfl (g.aW ?_);refine aZ a tX ?_;show b0 r _ (.loop _) _ _ _;refine b0.loop (bq:=Nat) (λj=>j<=c k) (λj=>[(0,.n (.aq (.aR 1))),(1,ax (.O [vW k])),(3,S ((j:Int)-1))]) (λj=>[o j,.loop d b p]) (λj=>j) (c k) (bC _) (eD a E) a ?_;intro j q;rcases j with _|i
 .refine g.aW ?_;refine a6 [(8,l)] a E (g.fH a a ?_);exact⟨(),.inr a,a,qL (aE 0) (qL E a),[],.Q [],[],a,a,a,v⟩
 have u:(((i+1:Nat):Int)-1)=(i:Int):=y;rw[u];refine g.aW ?_;refine a6 [(8,f)] a ?_ ?_
 .simp only[U,bA,ba,a9];omega
 refine g.yield (e i q) a a a a a a λ_=>?_;exact a6 [(18,l)] a Rh ⟨i,by omega,by omega,eD a E,a⟩
def Ib{a:m (Int×Int)}(b:e<c a):a.drop e=a.getD e (0,0)::a.drop (e+1):=Fz
def IJ(b:m (Int×Int))(j:c b<=4000000):Y r 160 [a1.S b] [] (ax (iw b)) []:=by
 refine(bk.e5 (ι:=Unit) (ao:=λ_=>[]) (res:=λ_=>ax (iw b)) func160 rfl rfl rfl λp=>?_).toY;have e:a8 r [(194,ev [a1.S b] (ax (.fn (.func 243) [] [.O [vW b]])))]:=.cons (eI (TA b)) .nil;refine db.seq (b0.bA (g.aW ?_));refine b_ e a v (db.seq (b0.bA (g.aW ?_)));refine b_ e a v (db.seq (db.seq (b0.bA (g.aW ?_))));refine b_ e a a (db.block ?_);have i:iw (b.drop (c b))=.bk:=by rw[sB];rfl
 refine db.rangeFunc (o':=e2 [.O [vW b]]) (bY.callee a) (TF b j (λd=>.cells 190 [.c (iw (b.drop d))]) (by rw[i];rfl) E ?_) (λd=>⟨a,by simp⟩) λd=>⟨.normal,a,?_⟩
 .intro d bp;refine iC.cH (bs:=λ_=>[.cells 101 [.c (.int .i64 (b.getD d (0,0)).1),.c (.int .i64 (b.getD d (0,0)).2)],.x]) ?_ bl (λ_ w o aE=>?_)
  .rw[Ib bp];generalize b.drop (d+1)=k;cases k<;>(
    refine iC.intro (w:=n) a a a a (g.aW ?_);refine aZ a v ?_;refine⟨a,a,g.aW ?_⟩;refine gJ [] 1 a v ?_;refine g.region ?_;refine gJ [] 4 a v ?_;refine g.e1 13 3 a a a ?_;refine aZ a v ?_;refine⟨a,a,(),jP a ?_⟩;simp[iw])
  .match w,aE with
   |0,aE=>cases aE;exact .inl ⟨_,_,a,a⟩
   |1,aE=>exact .inr (.inl aE)
   |w+2,aE=>simp at aE
 .show db r _ _ _ _ _;refine b0.bA (g.aW ?_);rw[List.drop_zero];cases b<;>(
   refine aZ a v ?_;refine g.ret ⟨(),bW.zero a ?_⟩;simp[iw])
abbrev adB(a:m (Int×Int))(b:Bool):z:=.Q [.aq (.c (.S l 2 (c a) (a1.fn a))),.aq (.c (.bool b))]
def VR(d)(o)(i:g8 d=f)(j:hx o=f)(p:c d<=9):Y r 169 [a1.S d,pc o.1 o.2] [] (adB (if c d=9 then d else d++[o]) (decide (c d≠9))) []:=by
 refine Y.K func169 rfl λm=>?_;have b:a8 r [(122,n7),(158,df p3 (λe=>bh (hx e)) λ_=>[])]:=.cons tP (.cons (.ba λe _=>IB e) .nil);refine a_ b [(9,l),(14,l)] a ?_ ?_
 .simp only[U,a1.E,i,j,f_,ba,a9];first|exact a1.U _|(and_intros<;>first|rfl|exact a1.U _)
 refine g.aF (In d y) [] a ?_;by_cases x:c d=9
 .exact a_ b [(19,f)] a oS Ow
 refine a_ b [(19,l)] a ?_ ?_
 .simp only[U,show s9.bytes=16 from a,eX,ba,a9];exact q4
 have k:=a1.a0 d o;refine g.fW (dE:=[(4,cz 1 (.S (c d+1) 2 0 (c d+1))),(5,bh f)]) (ao:=[.cells 101 [.c (.int .i64 o.1),.c (.int .i64 o.2)],.h 101 2 (c d+1) (a1.fn (d++[o]))]) ?_ a nP a bK;exact Ow
def Vq(d)(e:c d<=4000000):Y r 195 [a2.S d] [] (S (if c d=0 then 0 else(d.getD (c d-1) (0,[])).1)) []:=by
 refine Y.K func195 rfl λi=>?_;by_cases u:c d=0
 .rw[br u];exact a6 [(5,f)] a gV (g.aw a)
 have b:d.getD ((c d:Int)-1).toNat a2.I=d.getD (c d-1) (0,[]):=by rw[show((c d:Int)-1).toNat=c d-1 by omega];rfl
 rw[bm u];refine a6 [(5,l)] a ?_ (g.aw a dA);simp only[U,b,a7,eX,ba,a9];exact fr
def kK(a:Int)(d:m (Int×Int)):Int:=d.foldl (λa b=>max a (b.2+1)) a
def JF(d):∀a b:Int,kK (max a b) d=max a (kK b d):=by
 induction d with
 |nil=>intro a b;rfl
 |cons g e i=>
  intro a b;show kK (max (max a b) (g.2+1)) e=max a (kK (max b (g.2+1)) e);grind
def Yy{A}{d}(a:e<c d):kK A (d.take (e+1))=max (kK A (d.take e)) ((d.getD e (0,0)).2+1):=by unfold kK;grind[ie]
def kt(a:cq):Int:=if c a.2.1=0 then 1 else max 1 ((a.2.1.getD (c a.2.1-1) (0,[])).1+1)
def acK(b):kK (kt b) b.2.2=dF b:=by
 unfold kt dF;have a:kK 1 b.2.2=lU b.2.2:=rfl;split
 .exact a
 rw[show max 1 ((b.2.1.getD (c b.2.1-1) (0,[])).1+1)=max ((b.2.1.getD (c b.2.1-1) (0,[])).1+1) 1 by omega,JF,a];omega
def Wd(b)(i:dN b)(I:nX b):Y r 163 [b1 b] [] (.Q [.aq (.c (.int .i64 (dz b))),.aq (.c (.int .i64 (dF b)))]) []:=by
 refine Y.K func163 rfl λF=>?_;have t:=i.a2;have J:=i.a7;have O:=i.aN;have K:1<=kt b/\kt b<=4000001:=by
  unfold kt;split
  .omega
  exact Ou
 apply g.cg [(1,aG 0 0),(4,S (kt b))] [jV b]
 .intro du;by_cases e:c b.2.1=0
  .exact bQ [(12,l),(1000005,f)] a dA (du _ _ a (by simp[kt,e]))
  have D:=I.bc _ (my (show c b.2.1-1<c b.2.1 by omega) (0,[]));have x:b.2.1.getD ((c b.2.1:Int)-1).toNat bj.I=b.2.1.getD (c b.2.1-1) (0,[]):=Q_;refine bQ [(12,f)] a wz ?_;rw[x];refine g.aO (yC (kt b) a a a (by unfold kt;grind) bK) a a ?_;exact bQ [(1000005,f)] a v kx
 refine cu a v (g.aL 1 (λd=>d<=c b.2.2) (λd:Nat=>[(1,aG 0 0),(4,S (kK (kt b) (b.2.2.take d))),(24,a1.S b.2.2),(25,S (c b.2.2)),(26,S d)]) (λd=>[jV b]) (λd=>c b.2.2-d) 0 a ?_ a ?_ a y ?_)
 .simp[kK]
 .simp
 intro d p;have k:∀d,1<=kK (kt b) (b.2.2.take d)/\kK (kt b) (b.2.2.take d)<=4000001:=λd=>by have m:=s8 (b.2.2.take d) λB C=>I.aN B (hf C);have w:kK 1 (b.2.2.take d)=lU (b.2.2.take d):=rfl;rw[show kt b=max (kt b) 1 by omega,JF,w];omega
 have m:=k d;have N:=k (d+1);by_cases e:d<c b.2.2
 .have D:=I.aN _ (my e (0,0));have x:b.2.2.getD (d:Int).toNat a1.I=b.2.2.getD d (0,0):=M;have u:=Yy (A:=kt b) e;refine bQ [(27,f)] a wz ?_;rw[x];refine g.aO (yC (kK (kt b) (b.2.2.take (d+1))) a a a u.symm nO) a a ?_;refine cu a bK (g.aA (d+1) a E ?_ e y);simp
 obtain rfl:d=c b.2.2:=y;rw[c9,acK]at m⊢;have j:dz b=(if c b.1=0 then 0 else(b.1.getD (c b.1-1) (0,[])).1)+1:=by unfold dz;split<;>rfl
 have o:-4000000<=dz b-1/\dz b-1<=4000000:=by
  rw[j];split
  .omega
  exact QK
 have q:=Vq (r:=r) b.1 t;have s:=IY (r:=r) b;rw[j]at o⊢;generalize(if c b.1=0 then 0 else(b.1.getD (c b.1-1) (0,[])).1)=R at *;have z:a8 r [(118,ev [b1 b] (b1 b)),(195,ev [a2.S b.1] (S R))]:=.cons (eI s) (.cons (eI q) .nil);refine bQ [(27,l)] a E (g.aC ?_);refine cJ z a ?_ (g.aw a);exact bK
abbrev qS(a:m bE):N:=.S l 1 (c a) (bR.fn a)
def TQ(d):Y r 164 [bR.S d,S 4] [] (ax (.fn (.func 196) [] [.O [qS d],.O [.int .i64 4]])) []:=by refine Y.K func164 rfl λb=>?_;refine gJ [] 6 a v ?_;refine g.freeze 2 0 a a a ?_;refine g.freeze 3 1 a a a ?_;exact a6 [(6,l)] a E (g.aw a nP)
def gD(b:m bE)(a:Nat):m bE:=(b.drop (4*a)).take 4
def TP(d)(W:c d<=4000000){j}{N0}{ik}{x yA}(A)(V:A<=(c d+3) / 4)(e:Nat->m an)(w)(Y:∀b,c (e b)=j)(Q:∀b,jQ (e b++[.loop N0 ik x])=f)(N:jQ (w++[.loop N0 ik yA])=f)(i:∀b,b<A->4*b<c d->iC (ι:=Unit) r j [bR.S (gD d b)] (e b++[.loop N0 ik x]) f (λ_=>e (b+1)++[.loop N0 ik x]))(o:4*A<c d->iC (ι:=Unit) r j [bR.S (gD d A)] (e A++[.loop N0 ik x]) l (λ_=>w++[.loop N0 ik yA])):
  bk (ι:=Unit) r 196 [.n (.aq (.aR j)),ax (.O [qS d]),ax (.O [.int .i64 4])] (e 0++[.loop N0 ik x]) (λ_=>.Q []) (λ_=>if 4*A<c d then w++[.loop N0 ik yA]else e A++[.loop N0 ik x]):=by
 refine bk.bP func196 rfl rfl rfl (g.aW ?_);refine aZ a v ?_;show b0 r _ (.loop _) _ _ _;refine b0.loop (bq:=Nat) (λb=>b<=A) (λb=>[(0,.n (.aq (.aR j))),(1,ax (.O [qS d])),(2,ax (.O [.int .i64 4])),(4,S (4*b:Nat))]) (λb=>e b++[.loop N0 ik x]) (λb=>A-b) 0 (gZ _) ?_ a ?_
 .exact .cons a (eD a E)
 intro b F;refine g.aW ?_;by_cases p:4*b<c d
 .have C:U (jf (c d) (h ((4*b:Nat):Int)) n):=by simp only[jf,U];omega
  have K:bT (c d) n-bT 0 (h ((4*b:Nat):Int))=c d-4*b:=bK;refine a6 [(9,f),(1000003,f)] a bw ?_;let u:Nat->z:=λq=>([S 4,bR.S d,S (4*b:Nat),ax (.S l 1 (bT (c d) n-bT 0 (h ((4*b:Nat):Int))) (fx (bT 0 (h ((4*b:Nat):Int))) (bR.fn d))),S (bT (c d) n-bT 0 (h ((4*b:Nat):Int)):Nat),S (min 4 (c d-4*b):Nat),S (min 4 (c d-4*b):Nat)]:m z).getD q .any;refine g.cu b6 u (lR (λ_ _ _=>e b++[.loop N0 ik x]) 100 101 102) oR oR oR oR ?_ ?_
  .exact⟨.aE,
   .aE,
   .aE,
   cp.eK a a a (λ_ _ _=>aV.eval (bg:=[]) bd a8.nil a C),
   .aE,
   cp.eK a a a (λ_ _ _=>aV.a1 (λ_ _ _ _=>iY a) (yE _ a a a M nO)),
   .aE,v⟩
  intro z X;show g r _ _ _ _ _ (e b++[.loop N0 ik x]);have R:(((4*b:Nat):Int)+((min 4 (c d-4*b):Nat):Int))=((4*b+min 4 (c d-4*b):Nat):Int):=y;refine aZ a tX (g.aO (a0.jU bd a a a a (k:=c d) (T:=bR.fn d) (eR:=l) (λ_ _ a'=>b7 a') a a a y y y y) a a ?_);have O:c (gD d b)=min 4 (c d-4*b):=by simp[gD]
  refine e'.le (dE:=[(0,.n (.aq (.aR j))),(19,.n (.aq (.aR j))),(1,ax (.O [qS d])),(2,ax (.O [.int .i64 4])),(4,S (4*b:Nat)),(28,bR.S (gD d b))]) ?_ (.cons a (.cons a (eD a ?_)))
  .have I:(e b++[an.loop N0 ik x])[j]?=h (.loop N0 ik x):=M;rcases dY b A with B|B
   .refine g.yield (i b B p) a a a (N0:=N0) (ik:=ik) (a':=x) I a a λ_=>?_;exact a6 [(30,l)] a Rh ⟨b+1,by omega,by omega,.cons a (eD a bw),a⟩
   obtain rfl:b=A:=y;refine g.yield (o p) a a a (N0:=N0) (ik:=ik) (a':=x) I a a λ_=>?_;exact a6 [(30,f)] a E (g.ret ⟨(),.inl a,(br p).symm,by grind,[],.Q [],[],a,a,a,v⟩)
  simp only[U.Y,U,ba,a9];have J:((4*b:Nat):Int).toNat=4*b:=y;have D:(((4*b:Nat):Int)+((min 4 (c d-4*b):Nat):Int)).toNat-((4*b:Nat):Int).toNat=c (gD d b):=M;refine⟨D,λq t=>?_⟩;rw[D]at t;rw[J];show bR.a8 (d.getD (4*b+q) bR.I)=bR.a8 ((gD d b).getD q bR.I);congr 1;simp only[gD,al];grind
 obtain rfl:b=A:=y;refine a6 [(9,l)] a bw (g.fH a a ?_);exact⟨(),.inr a,(bm p).symm,by grind,[],.Q [],[],a,a,a,v⟩
def nq(d:Int)(b:cq)(e:m bE)(a:Nat):Bool:=(l3 (dz b+a) d (gD e a)).2&&!(c b.1+a==20)
def mT(b:Nat->Bool):Nat->Nat->Nat
 |0,a=>a
 |d+1,a=>if b a=f then mT b d (a+1)else a
def Ef(d:Nat->Bool):∀b a,a<=mT d b a/\mT d b a<=a+b/\(∀e,a<=e->e<mT d b a->d e=f)/\(mT d b a<a+b->d (mT d b a)=l)
 |0,a=>⟨bC _,bC _,λe g i=>absurd g (by simp[mT]at i;omega),λj=>absurd j (by simp[mT])⟩
 |b+1,a=>by obtain⟨g,i,m,k⟩:=Ef d b (a+1);rw[mT];grind
def jp(b:Int)(g:cq)(d:m bE)(e:Nat):m b':=(aC e).map λa:Nat=>(l3 (dz g+a) b (gD d a)).1
theorem De(i)(b)(d)(k):c (jp i b d k)=k:=by simp[jp]
def aaq(i)(b)(d)(k):jp i b d (k+1)=jp i b d k++[(l3 (dz b+(k:Nat)) i (gD d k)).1]:=by simp[jp,List.range_succ]
def KV{b}(a:nX b):-4000000<=dz b/\dz b<=4000001:=by
 unfold dz;split
 .omega
 rename_i d;have:=a.a2 _ (CM d (0,[]));omega
def pD(d:Int)(a:cq)(b:Int)(i:m c'):cq×Option bE:=
 let e:=gu d i (e5 a.1);let g:=mT (nq d a e) ((c e+3) / 4) 0
 if g<(c e+3) / 4 then(([],[],[]),h [112,97,99,107,115])
 else if 20<dF a then(([],[],[]),h [115,110,97,112,115,104,111,116,115])
 else if c a.2.2=9 then(([],[],[]),h [104,101,97,100,115])
 else((a.1++jp d a e g,a.2.1++[gS (dF a) d i],a.2.2++[(b,dF a)]),n)
def Tm:Option bE->E1
 |none=>.aq (.c .bo)
 |some a=>.aq (.c (.cd 167 (.O [.V a])))
def MK(a:cq×Option bE):z:=.Q [.agg [.c (tE a.1.1),.c (tF a.1.2.1),.c (hT a.1.2.2)],Tm a.2]
abbrev acZ(d:cq)(a:Int)(e:m c')(b:m bE):bH:=[(2,S a),(3,bD.S e),(4,aG 2 0),(5,aG 3 0),(8,aG 4 0),(9,aG 5 0),(10,aG 9 0),(11,aG 10 0),(12,S (dF d)),(33,ax (.fn (.func 196) [] [.O [qS b],.O [.int .i64 4]]))]
abbrev v5(g e:av×Z)(j:Int)(b:cq)(i:N)(a:m b')(d:Int):m an:=ii g e++[.cells 27 [.c (tE b.1),.c (tF b.2.1),.c (hT b.2.2)],.cells 3 [.c (.int .i64 j)],.cells 27 [cB,cB,cB],.cells 164 [.c i],
 .h 70 2 (c a) (a2.fn a),.h 74 2 (c b.2.1) (bj.fn b.2.1),.x,.cells 27 [.R 6 (.S (c a) 2 0 (c a)),.R 7 (.S (c b.2.1) 2 0 (c b.2.1)),.c (hT b.2.2)],.cells 3 [.c (.int .i64 d)]]
def Ms{s j}{b}{o m}{ab d}{bS a}{p g}(e)(k)(aE:(v5 s j i b o ab bS++[.loop D F p])[e]?=h k):z_ 12 (v5 s j i b m d a++[.loop D F g]) e k:=by
 rcases e with _|_|_|_|_|_|_|_|_|_|_|_|e<;>first
  |(cases aE;exact .inl ⟨_,_,rfl,rfl⟩)
  |(cases aE;exact .inr (.inr (.inl ⟨_,_,_,_,rfl,rfl⟩)))
  |(cases aE;exact .inr (.inr (.inr ⟨by grind,by grind⟩)))
  |simp_all
def WS(t j)(i)(b)(e)(q)(bU:cK i=f)(x:dN b)(ea:nX b)(C:dV q=f)(P:c (dQ b.1)<=100000)(G:kN (e5 b.1) (c (e5 b.1))=f)(Z:g8 b.2.2=f)(aK:e=1∨e=2)(ah:1<=dF b):
  Y r 132 [b1 b,S i,S e,bD.S q] (ii t j) (MK (pD i b e q)) (ii t j):=by
 obtain⟨Q,p⟩:∃Q,Q=pD i b e q:=⟨_,rfl⟩;rw[<-p];unfold pD at p;simp only at p;refine(bk.jf (ι:=Unit) (ao:=λ_=>ii t j) (res:=λ_=>MK Q) func132 rfl rfl rfl ?_).toY
 refine db.seq (b0.bA (g.aW ?_));refine aZ a v (db.seq (b0.bA (g.aW ?_)));refine aZ a v (g.aF (I2 b x.a2 x.bp x.a7 x.bx x.aN) [] a (aZ a v (db.seq (b0.bA (g.aW ?_)))));refine g.bw 8 a a a E (by simp;exact⟨v,v⟩) (aZ a v (g.aF (Wd b x ea) [] a (aZ a v (db.seq (db.seq (b0.bA (g.aW ?_)))))));generalize ak:e5 b.1=d at *;have ab:a8 r [(166,ev [a2.S b.1] (a1.S d)),(164,ev [bR.S (gu i q d),S 4] (ax (.fn (.func 196) [] [.O [qS (gu i q d)],.O [.int .i64 4]])))]:=.cons (eI (ak▸U9 b.1 x.a2 P)) (.cons (eI (TQ _)) .nil);have aF:c d<=4000000:=by grind[JU]
 refine g.gh b6 [S i,bD.S q,aG 2 0,a2.S b.1,a1.S d,bR.S (gu i q d),ax (.fn (.func 196) [] [.O [qS (gu i q d)],.O [.int .i64 4]])] 12 rfl rfl rfl rfl rfl ⟨aV.y,aV.y,aV.y,aV.y,
  aV.eval (bg:=[]) bd ab a a,aV.dU (dx.dk (W9 t j i q d bU C G aF).tocD [0,1] a a a a a a a bl a bl),aV.eval (bg:=[]) bd ab a a,v⟩ ?_
 refine aZ a v (db.block ?_);refine db.bf (acZ b e q (gu i q d)) (v5 t j i b .bo (b.1++jp i b (gu i q d) 0) (dz b+(0:Nat))) a E a ?_ ?_
 .simp[jp];exactλaB _=>rfl
 have ad:∀B∈gu i q d,cC B=f:=(vX (r8 C)).1;have ag:c (gu i q d)<=4000000:=fG (vX (r8 C)).2 ca;generalize gu i q d=k at *;obtain⟨au,av,I,ar⟩:=Ef (nq i b k) ((c k+3) / 4) 0;have aJ:=x.a2;generalize V:mT (nq i b k) ((c k+3) / 4) 0=m at *;refine db.jL (o':=e2 [.O [qS k],.O [.int .i64 4]]) (bY.callee a)
  (TP (yA:=?aff) k ag m y (λw=>v5 t j i b .bo (b.1++jp i b k w) (dz b+(w:Nat))) (v5 t j i b (.cd 167 (.O [.V [112,97,99,107,115]])) (b.1++jp i b k m) (dz b+(m:Nat))) (λw=>rfl) (λw=>rfl) a (λw J L=>?YD) λaI=>?YE) λaB=>?bU
 case YE=>
  have O:=ar y;have R:=IR (r:=r) t j (dz b+(m:Nat)) i (gD k m) Nt bU (λB F=>ad B (ss (hf F))) (by simp[gD];omega);have ae:=De i b k m;generalize an:l3 (dz b+(m:Nat)) i (gD k m)=s at *;refine iC.cH (bs:=λ_=>[.cells 70 [.c (.int .i64 s.1.1),.c (.S l 2 (c s.1.2) (bG.fn s.1.2))],.x]) (iC.intro (w:=h .ret) a a a a (g.aW ?_)) ?_ ?_
  .refine aZ a v ⟨a,a,g.aW ?_⟩;refine aZ a v (g.aF R [0,1] a ?_);have aa:c (b.1++jp i b k m)=c b.1+m:=M;have D:s.2=f->c b.1+m=20:=λaw=>by simpa[nq,an,aw]using O
   cases z:s.2 with
   |false=>
    refine a6 [(44,f),(49,f),(1000007,f)] a (by simp[z]) (g.region ?_);refine gJ [] 3 a v (g.e1 52 13 a a a ?_);refine aZ a v (g.ret ?_);refine⟨a,a,(),jP a ?_⟩;simp[U.Y,U,ba,a9];and_intros<;>first|exact bt.same|exact bt.nil|rfl
   |true=>
    have:=D z;refine a6 [(44,l),(49,f),(1000007,f)] a bK (g.region ?_);refine gJ [] 3 a v (g.e1 52 13 a a a ?_);refine aZ a v (g.ret ?_);refine⟨a,a,(),jP a ?_⟩;simp
  .exact λ_=>rfl
  exactλ_=>Ms
 case YD=>
  have aE:=I w (gZ _) J;have R:=IR (r:=r) t j (dz b+(w:Nat)) i (gD k w) Nt bU (λB F=>ad B (ss (hf F))) (by simp[gD];omega);have ae:=De i b k w;have W:=aaq i b k w;obtain⟨aq,aD⟩:(l3 (dz b+(w:Nat)) i (gD k w)).2=f/\¬(c b.1)+w=20:=by simpa[nq]using aE
  generalize l3 (dz b+(w:Nat)) i (gD k w)=s at *;have aa:c (b.1++jp i b k w)=c b.1+w:=M;have ai:b.1++jp i b k (w+1)=(b.1++jp i b k w)++[s.1]:=M;generalize b.1++jp i b k w=o at *;refine iC.cH (bs:=λ_=>[.cells 70 [.c (.int .i64 s.1.1),.c (.S l 2 (c s.1.2) (bG.fn s.1.2))]]) (iC.intro (w:=n) a a a a (g.aW ?_)) ?_ ?_
  .refine aZ a v ⟨a,a,g.aW ?_⟩;refine aZ a v (g.aF R [0,1] a ?_);have me:=a2.a0 o s.1;have az:=KV ea;refine a6 [(44,l),(49,l)] a ?_ ?_
   .simp only[U,a7,aq,show nv.bytes=32 from a,aa,eX,dZ,f_,ba,a9];omega
   refine⟨a,a,(),jP a ?_⟩;have aN:c (o++[s.1])=c o+1:=E;have H:dz b+(w:Int)+1=dz b+((w+1:Nat):Int):=y;rw[ai,aN,<-H];simp only[U.Y,U,ba,a9];exact P3
  .exact λ_=>rfl
  exactλ_=>Ms
 case bU=>
  by_cases L:4*m<c k
  .rw[br L];refine⟨_,a,by simp,.ret,a,?_⟩;rw[br (show m<(c k+3) / 4 by omega)]at p;subst p;simp only[uL,v'];refine .freeze 8 4 a a a (.freeze 9 5 a a a (.of ⟨(),k2.cells bd [0,1] a ?_ a a a qt⟩));simp
  rw[bm L];refine⟨_,a,by simp,.normal,a,?_⟩;rw[bm (show¬m<(c k+3) / 4 by omega)]at p;show db r _ _ _ _ _;refine b0.bA (g.aW ?_);by_cases D:20<dF b
  .rw[br D]at p;subst p;refine a6 [(63,f),(1000011,f)] a bw (g.region ?_);refine gJ [] 3 a v (g.e1 66 13 a a a ?_);exact O6
  rw[bm D]at p;have aj:c b.2.2<=9:=by simp only[g8,cE,bA]at Z;omega
  refine a6 [(63,l)] a bw (g.aF (W_ t j (dF b) i q ⟨ah,by omega⟩ bU C) [0,1] a ?_);have me:=bj.a0 b.2.1 (gS (dF b) i q);have aH:=x.a7;refine a6 [(1000014,f)] a ?_ ?_
  .simp only[U,show rI.bytes=32 from a,ba,a9];omega
  refine g.region ?_;refine aZ a v (g.aF (VR b.2.2 (e,dF b) Z (by simp only[hx,cE,bA];omega) aj) [] a ?_);by_cases A:c b.2.2=9
  .rw[br A]at p;subst p;refine a6 [(91,f),(1000016,f)] a (by simp[A]) (g.region ?_);refine gJ [] 3 a v (g.e1 94 14 a a a ?_);exact O6
  rw[bm A]at p;subst p;simp only[bm A];refine a6 [(91,l),(1000018,f)] a (by simp[A]) ?_;have ae:c (b.1++jp i b k m)=c b.1+m:=by grind[De]
  generalize b.1++jp i b k m=o at *;generalize X:b.2.1++[gS (dF b) i q]=u at *;have N:c u=c b.2.1+1:=M;generalize T:b.2.2++[(e,dF b)]=K at *;refine g.fW (dE:=[(8,aG 4 0),(9,aG 5 0),(10,aG 9 0)]) (ao:=ii t j++[.cells 27 [.c (tE b.1),.c (tF b.2.1),.c (hT b.2.2)],.cells 3 [.c (.int .i64 i)],.cells 27 [cB,cB,cB],.cells 164 [.c .bo],.h 70 2 (c o) (a2.fn o),.h 74 2 (c u) (bj.fn u),.x,.cells 27 [.R 6 (.S (c o) 2 0 (c o)),.R 7 (.S (c u) 2 0 (c u)),.c (hT K)],.cells 3 [.c (.int .i64 (dz b+(m:Nat)))],.x,.bn,.cells 74 [.c (.int .i64 (gS (dF b) i q).1),.c (.S l 2 (gS (dF b) i q).2.length (cv.fn (gS (dF b) i q).2))]]) ?_ a ?_ a ?_
  .refine g.bw 6 a a a E E (g.bw 7 a a a E E (aZ a v (g.ret (.freeze 8 4 a a a (.freeze 9 5 a a a (.of ⟨(),k2.cells bd [0,1] a ?_ a a a qt⟩))))));simp[hz]
  .simp
  simp only[U.Y,U,N,ba,a9];exact P3
end
structure j6(b:cq):Prop where
 eP:c b.1<=20
 dL:∀R∈b.1,(1<=R.1/\R.1<=99)/\c R.2<=4
 ew:c b.2.1<=21
 c0:∀o∈b.2.1,(1<=o.1/\o.1<=20)/\c o.2<=6/\∀X∈o.2,c X.2<=40
 fY:c b.2.2<=9
 fp:∀u∈b.2.2,1<=u.2/\u.2<=20
def s6{a g:Type}{ae:a->m g}{k}:∀{d:m a},(∀b∈d,c (ae b)<=k)->c (d.flatMap ae)<=k*c d
 |[],_=>by simp
 |b::d,e=>by have o:=e b jc;have p:=s6 (d:=d) λj i=>e j (m_ _ i);grind[Nat.mul_succ]
def wa{a:eF}(d:c a.2<=6/\∀b∈a.2,c b.2<=40):c (d_ a.2)<=240:=by have:=s6 (ae:=λb:m2=>b.2) (k:=40) d.2;unfold d_;omega
def j6.fT{b:cq}(a:j6 b):nY b:=by
 have j:=a.eP;have m:=a.ew;have k:c (dg b.1)<=4*c b.1:=s6 λg d=>by rw[k3];exact(a.dL g d).2
 have o:c (hh b.2.1)<=240*c b.2.1:=s6 λi e=>wa (a.c0 i e).2;refine⟨⟨by omega,λi e=>?_,by omega,by omega⟩,λg d=>?_,by omega⟩
 .have:=(a.c0 i e).2;grind
 have:=(a.dL g d).2;omega
def j6.dv{b}(d:j6 b):dN b:=by have a:=d.fT;have e:=d.fY;exact⟨a.fO,a.c1,a.fa,a.dX,by omega⟩
def j6.e'{b}(e:j6 b):nX b:=
 ⟨λd a=>by have:=(e.dL d a).1;omega,λd a=>by have:=(e.c0 d a).1;omega,λd a=>by have:=e.fp d a;omega⟩
def j6.j7{b}(a:j6 b):c (dQ b.1)<=100000:=by
 have e:=a.eP;have:c (R1.dQ b.1)<=4*c b.1:=s6 λg d=>by rw[k3];exact(a.dL g d).2
 omega
def acy{o}{ab}(g:(ff i o ab).isSome=f):c o.2<=6/\∀b∈o.2,c b.2<=40:=by
 unfold ff at g;split at g
 .rename_i j;simp only[cE]at j;obtain⟨⟨_,p⟩,k⟩:=j;refine⟨?_,λb m=>?_⟩
  .simp only[dV,cE,bA,fH,k3]at k;omega
  have a:=List.all_eq_true.1 p b m;unfold hj at a;split at a
  .cases a
  rename_i q d;split at a
  .cases a
  rename_i s e;have r:c q=c b.2:=by unfold h5 at d;split at d<;>cases d;simp
  unfold jK at e;split at e
  .rename_i j;simp[cE,hg,fD,bA]at j;grind[vG]
  grind
 grind
def mh.gF{b}(a:mh i b):j6 b:=by
 have m:c b.2.1<=20:=by have:=xe 1 a.dq λe d=>(a.a7 e d).1;omega
 have g:=a.eE;simp[g8,cE,bA,f']at g;refine⟨a.len,λR j=>⟨(a.c1 R j).db,(a.c1 R j).len.2⟩,by omega,λe d=>⟨(a.a7 e d).1,acy (a.a7 e d).2⟩,g.2,λo k=>?_⟩;have:=(sH (R:=hx) (I:=(0,0))).1 g.1 o k;simp[hx,cE,bA]at this;omega
def Yz{d}(b:∀a∈d,-4000000<=a.2/\a.2<=4000000):1<=lU d:=(s8 d b).1
def acu{b}(a:j6 b):1<=dF b:=by have:=Yz a.e'.aN;unfold dF;split<;>omega
def aa7{b}(d:j6 b):1<=dz b:=by
 unfold dz;split
 .omega
 rename_i a;have:=(d.dL _ (CM a (0,[]))).1;omega
def j6.dc{b}{q}{cg}(g:j6 b)(B:c b.2.1<=20)(o:dV q=f)(s:fJ i b q=l):j6 (hU i b cg q):=by
 simp[fJ,Bool.or_eq_false_iff,dj]at s;obtain⟨E,C,I,D⟩:=s;have z:=acu g;have F:=aa7 g;have v:=EB.1 o;unfold hU;refine⟨by grind,λa x=>?_,by grind,λa x=>?_,by grind,λa x=>?_⟩
 .rcases gl.1 x with x|x
  .exact g.dL a x
  obtain⟨j,A,p,e,r,t,u,rfl⟩:=KZ i _ _ _ (vX (i:=i) (d:=e5 b.1) (r8 o)).1 a x;have e:j<dz b+c (pt i b q):=e;exact⟨⟨by show 1<=j;omega,by show j<=99;omega⟩,by grind[aaA]⟩
 .rcases gl.1 x with x|x
  .exact g.c0 a x
  rw[gY]at x;subst x;refine⟨⟨z,by show dF b<=20;omega⟩,by show(q.map _).length<=6;grind,λJ w=>?_⟩;obtain⟨k,s,rfl⟩:=k4.1 w;have m:=(v.1 k s).2;simp[fD,cE,bA]at m;have y:=vG k.2;show((cy k.2).map _).length<=40;grind
 rcases gl.1 x with x|x
 .exact g.fp a x
 grind
structure i_(b:cq):Prop extends j6 b where
 dI:b.1.Pairwise λR bc=>R.1<bc.1
 dq:b.2.1.Pairwise λo X=>o.1<X.1
 fE:∀u∈b.2.2,1<=u.1/\u.1<=2
def i_.nil:i_ ([],[],[]):=⟨⟨by simp,by simp,by simp,by simp,by simp,by simp⟩,by simp,by simp,by simp⟩
def i_.dR{b}(a:i_ b):oU b:=⟨a.dv,a.dI,a.e'.bc,a.fE⟩
def i_.j1{b}(a:i_ b):c b.2.1<=20:=by have:=xe 1 a.dq λe d=>(a.c0 e d).1;omega
def Gl{ae:α->Int}{d}(j:d.Pairwise λa b=>ae a<ae b)(i:c d≠0)(e):∀g∈d,ae g<=ae (d.getD (c d-1) e):=by grind[List.getElem_of_mem,List.pairwise_iff_getElem]
def i_.dc{i}{b}{q}{cg}(d:i_ b)(p:dV q=f)(s:1<=cg/\cg<=2)(o:fJ i b q=l):i_ (hU i b cg q):=by
 refine⟨d.toj6.dc d.j1 p o,?_,?_,λe a=>?_⟩
 .refine o8.2 ⟨d.dI,KX i _ _ _,λe a m g=>?_⟩;have r:e.1<dz b:=by
   unfold dz;split
   .grind
   rename_i j;have:=Gl (ae:=λk:b'=>k.1) d.dI j (0,[]) e a;omega
  have:=DC i _ _ _ m g;omega
 .refine o8.2 ⟨d.dq,by simp,λe a m g=>?_⟩;rw[gY]at g;subst g;show e.1<dF b;unfold dF;split
  .grind
  rename_i j;have:=Gl (ae:=λk:eF=>k.1) d.dq j (0,[]) e a;omega
 rcases gl.1 a with a|a
 .exact d.fE e a
 grind
def i_.j3{b}(a:i_ b)(e:eF->Bool):i_ (b.1,b.2.1.filter e,b.2.2):=
 ⟨⟨a.eP,a.dL,fG (kB _ _) a.ew,λg d=>a.c0 g (kD.1 d).1,a.fY,a.fp⟩,a.dI,a.dq.filter _,a.fE⟩
def i_.step{b}(a:i_ b)(bS)(cr):i_ (fg bS cr b.1,b.2):=by
 refine⟨⟨?_,λi d=>?_,a.ew,a.c0,a.fY,a.fp⟩,?_,a.dq,a.fE⟩
 .have:c (fg bS cr b.1)<=c b.1:=by unfold fg;grind
  exact fG this a.eP
 .obtain⟨e,s,rfl,_⟩:=Mm d;have:=a.dL e s;grind[C',yx]
 show (fg bS cr b.1).Pairwise _;unfold fg;refine List.Pairwise.filter _ (wX.2 (a.dI.imp λg=>?_));grind[yx]
structure fb(k:Nat)(Q:dT):Prop where
 bc:i_ Q.1
 b8:c Q.2.1<=k
 cL:c Q.2.2<=20
def fb.mono{d}(a:fb k d)(b:k<=A):fb A d:=⟨a.bc,fG a.b8 b,a.cL⟩
abbrev kV:dT:=(([],[],[]),[],[])
def fb.nil{k}:fb k kV:=⟨i_.nil,by simp,by simp⟩
def kF(e:Int)(a:cq)(d:m Int):dT×Bool:=
 if hV e a=f then(((a.1,a.2.1.filter λb=>d.contains b.1,a.2.2),h8 (a.2.1.filter λb=>d.contains b.1),a.1.map (·.1)),f)else(kV,l)
def aei{b}(a:j6 b):c (hh b.2.1)<=240*21:=by have g:=a.ew;have i:c (hh b.2.1)<=240*c b.2.1:=s6 λe d=>wa (a.c0 e d).2;omega
def fb.iu{b}{C5}(e:i_ b):fb 6000 (kF i b C5).1:=by
 unfold kF;split
 .have d:=e.j3 λa=>C5.contains a.1;refine⟨d,?_,by simp only[k3];exact e.eP⟩;have g:=yB (b.2.1.filter λa=>C5.contains a.1) _ (bC _);have j:=aei d.toj6;grind
 exact fb.nil
def fb.step{k}{b}(a:fb k b):fb k (js b):=by
 unfold js;split
 .exact a
 rename_i e g d;refine⟨a.bc.step _ _,a.b8,?_⟩;have:=a.cL;grind
def rX(d:Int)(b:dT)(a:Int)(e:m c'):dT:=(hU d b.1 a e,(gG (gS (dF b.1) d e).2).foldl e6 b.2.1,b.2.2)
def rQ(b:Int)(e:dT)(a:Int)(d:m c'):Bool:=ha b e&&decide (1<=a/\a<=2)&&dV d
def fb.dc{i}{k}{a}{q}{cg}(b:fb k a)(j:dV q=f)(d:1<=cg/\cg<=2)(g:fJ i a.1 q=l):fb (k+240) (rX i a cg q):=by have e:=b.bc.dc j d g;refine⟨e,?_,b.cL⟩;have m:=qu a.2.1 (gG (gS (dF a.1) i q).2);have o:=tp (gS (dF a.1) i q).2;have r:=wa (e.c0 (gS (dF a.1) i q) (by simp[hU])).2;have p:=b.b8;show((gG _).foldl e6 a.2.1).length<=_;omega
def fb.jZ{a}(b:fb k a):pZ a.1:=b.bc.fT.topZ
def gw(b:m (Int×Int)):Int:=b.foldl (λd a=>64*d+21*a.1+a.2) 0
def mG(a:Int×Int)(b:m (Int×Int)):(Int×Int)×Int:=
 if g8 b=f/\a.1<=c b/\0<=a.1 then
  if gw (b.take a.1.toNat)=a.2 then(((c b:Int),gw b),0)else(a,2)
 else(a,1)
def Ei{b:m (Int×Int)}(e:∀d∈b,(1<=d.1/\d.1<=2)/\1<=d.2/\d.2<=20):∀a,0<=gw (b.take a)/\gw (b.take a)<((64 ^ a:Nat):Int)
 |0=>by simp[gw]
 |a+1=>by
  have i:=Ei e a;by_cases g:a<c b
  .have j:gw (b.take (a+1))=64*gw (b.take a)+21*(b.getD a (0,0)).1+(b.getD a (0,0)).2:=by unfold gw;grind[ie]
   grind
  grind[List.take_of_length_le]
def Kb{d}(b:g8 d=f):(∀a∈d,(1<=a.1/\a.1<=2)/\1<=a.2/\a.2<=20)/\c d<=9:=by simp only[g8,cE,bA,f']at b;refine⟨λa e=>?_,b.2⟩;have:=(sH (R:=hx) (I:=(0,0))).1 b.1 a e;simpa only[hx,cE,bA]using this
def zi{d}(g:∀a∈d,(1<=a.1/\a.1<=2)/\1<=a.2/\a.2<=20)(i:c d<=9)(e):0<=gw (d.take e)/\gw (d.take e)<18014398509481984:=by
 rcases Nat.le_total e 9 with b|b
 .have j:=Ei g e;have:64 ^ e<=64 ^ 9:=Ay y b;grind
 rw[FY y];have j:=Ei g (c d);rw[c9]at j;have:64 ^ c d<=64 ^ 9:=Ay y i;grind
abbrev SA:m (Nat×bL):=[(156,Hl)]
def Xb(i)(b)(z:nY b):Y (aj.aJ V) 121 [b1 b,S i] [] (bh ((aC (c b.2.1)).all (lr i b))) []:=by
 refine Y.K func121 rfl λN=>?_;have K:=z.fa;have F:=z.dX;have j:a8 (aj.aJ V) SA:=.cons ad_ .nil;refine b_ j a v (g.aL 1 (λe=>e<=c b.2.1/\∀w,w<e->lr i b w=f) (λe:Nat=>[(1,S i),(2,aG 0 0),(10,bj.S b.2.1),(11,S (c b.2.1)),(12,S e)]) (λ_=>[za b]) (λe=>c b.2.1-e) 0 a E a E a ⟨by omega,by omega⟩ ?_);rintro e ⟨B,p⟩;by_cases u:e<c b.2.1
 .have k:b.2.1.getD e bj.I=b.2.1.getD e (0,[]):=rfl;have t:b.2.1.getD (e-1) bj.I=b.2.1.getD (e-1) (0,[]):=rfl;have m:lr i b e=(decide (1<=(b.2.1.getD e (0,[])).1/\(b.2.1.getD e (0,[])).1<=20)&&ka (·.1) (0,[]) b.2.1 e&&(ff i (b.2.1.getD e (0,[])) b.1).isSome):=rfl;have D:=qb (ae:=λo:eF=>o.1) (I:=(0,[])) (d:=b.2.1) (e:=e);have C:=F _ (om (I:=(0,[])) u);generalize b.2.1.getD e (0,[])=o at *;generalize b.2.1.getD (e-1) (0,[])=s at *;by_cases q:1<=o.1
  rotate_left
  .refine a_ j [(13,f),(20,f),(25,f),(40,f)] a ?_ (g.aX (bW.zero a ?_))
   .simp[-al,k];omega
   exact j2
  by_cases r:o.1<=20
  rotate_left
  .refine a_ j [(13,f),(20,l),(25,f),(40,f)] a ?_ (g.aX (bW.zero a ?_))
   .simp[-al,k];omega
   exact j2
  rw[fm ⟨q,r⟩,fp]at m;by_cases x:e=0
  .subst x;rw[show ka (·.1) (0,[]) b.2.1 0=f from a,fp]at m;cases A:(ff i o b.1).isSome with
   |false=>
    refine a_ j [(13,f),(20,l),(25,l),(27,l),(40,l),(50,f)] a Oa (g.aX (bW.zero a ?_));rw[kE u (m.trans A)];simp
   |true=>
    refine a_ j [(13,f),(20,l),(25,l),(27,l),(40,l),(50,l)] a ?_ (g.aA 1 a E E ⟨u,iG p (m.trans A)⟩ y);exact Oa
  rw[D x]at m;by_cases J:s.1<o.1
  rotate_left
  .refine a_ j [(13,f),(20,l),(25,l),(28,f),(38,f),(40,f)] a ?_ (g.aX (bW.zero a ?_))
   .simp[-al,k,t,a7];omega
   exact j2
  rw[fm J,fp]at m;cases A:(ff i o b.1).isSome with
  |false=>
   refine a_ j [(13,f),(20,l),(25,l),(28,f),(38,l),(40,l),(50,f)] a Qt (g.aX (bW.zero a ?_));rw[kE u (m.trans A)];simp
  |true=>
   refine a_ j [(13,f),(20,l),(25,l),(28,f),(38,l),(40,l),(50,l)] a ?_ (g.aA (e+1) a E E ⟨u,iG p (m.trans A)⟩ y);exact Qt
 obtain rfl:e=c b.2.1:=y;rw[f'.2 p];refine a_ j [(13,l)] a E (g.aC ?_);exact b_ j a v (g.aw a)
def acV(i)(b):hV i b=(cK i&&tt i b&&(aC (c b.2.1)).all (lr i b)&&g8 b.2.2):=by unfold hV tt;cases(aC (c b.1)).all (nG i b.1)<;>cases decide (dg b.1).Nodup<;>cases(aC (c b.2.1)).all (lr i b)<;>cases cK i<;>cases g8 b.2.2<;>cases decide (c b.1<=20)<;>rfl
abbrev Su:bL:=en o9 c8 (λb a=>bh (tt a b)) λb a=>[cK a=f,nY b]
abbrev Sy:bL:=en o9 c8 (λa b=>bh ((aC (c a.2.1)).all (lr b a))) λa _=>[nY a]
def Xj(i)(b)(ae:nY b):Y (aj.aJ V) 72 [S i,b1 b] [] (bh (hV i b)) []:=by
 refine Y.K func72 rfl λk=>?_;have d:a8 (aj.aJ V) [(118,Hk),(119,df c8 (λi=>bh (cK i)) λ_=>[]),(120,Su),(121,Sy),(122,n7)]:=.cons ad8 (.cons r2 (.cons (.bm λb i e=>Wr i b e.1 e.2) (.cons (.bm λb i e=>Xb i b e) (.cons tP .nil))));have j:=a2.E b.1;have s:=bj.E b.2.1;have x:=a1.E b.2.2;rw[acV];cases bU:cK i
 .exact a_ d [(10,l),(15,l),(20,l)] a (by simp[bU,j,s,x,a2.U,bj.U,a1.U]) (g.aw a)
 cases ai:tt i b
 .exact a_ d [(10,f),(15,l),(20,l)] a (by simp[bU,j,s,x,a2.U,bj.U,a1.U,ae,ai]) (g.aw a)
 cases C:(aC (c b.2.1)).all (lr i b)
 .exact a_ d [(10,f),(15,f),(20,l)] a Qu (g.aw a)
 exact a_ d [(10,f),(15,f),(20,f)] a Qu (g.aw a oS)
abbrev xB:bL:=en c8 o9 (λb a=>bh (hV b a)) λ_ a=>[nY a]
def Eu:bM (aj.aJ V) 72 xB:=.bm λb d a=>Xj b d a
abbrev iB(b a:av×Z):m an:=ii b a++[Ac]
def qD(d:Int)(b:cq)(a:Int)(e:m c'):cq×Bool:=
 if hV d b=f/\(a=1∨a=2)/\dV e=f then(match(pD d b a e).2 with|none=>((pD d b a e).1,f)|some _=>(b,l))else(([],[],[]),l)
structure FU(i:Int)(b:cq):Prop where
 kk:cK i=f
 sp:c (dQ b.1)<=100000
 km:kN (e5 b.1) (c (e5 b.1))=f
 eE:g8 b.2.2=f
 a7:1<=dF b
def nk:∀a,a<3->([0,1,2]:m Nat)[a]?=h a:=ca
def Ty{b:aj V}(aa):Y b 133 [ax .bo,oa aa] [] (bh l) []:=by refine Y.K func133 rfl λd=>?_;refine aZ a v ?_;refine g.aO (Dn a underlying164 a a a) a a ?_;exact a6 [(9,f)] a E (g.aw a)
def Xl(w u)(i)(b)(j)(q)(p:dN b)(a':nY b)(F:nX b)(G:a7 .i64 j)(Q:hV i b=f->FU i b):
  Y (aj.aJ V) 85 [S i,b1 b,S j,bD.S q] (iB w u) (MI (qD i b j q).1 (qD i b j q).2) (iB w u):=by
 refine Y.bl bd func85 rfl rfl rfl λH=>?_;have m:a8 (aj.aJ V) [(72,xB),(46,rv)]:=.cons Eu (.cons t46 .nil);by_cases e:hV i b=f
 .by_cases d:j=1∨j=2
  .by_cases k:dV q=f
   .have o:qD i b j q=(match(pD i b j q).2 with|none=>((pD i b j q).1,f)|some _=>(b,l)):=br ⟨e,d,k⟩;rw[o];obtain⟨N,C,z,D,O⟩:=Q e;have B:=WS (r:=aj.aJ V) w u i b j q N p F k C z D d O;apply g.cg [(0,S i),(2,S j),(3,bD.S q),(5,aG 3 0),(8,aG 4 0)] (iB w u++[.cells 27 [.c (tE b.1),.c (tF b.2.1),.c (hT b.2.2)],.cells 27 [cB,cB,cB]])
    .intro du;rcases d with rfl|rfl
     .refine bf m [(17,l),(20,l),(25,l),(29,l),(1000003,f)] a O8 (du _ _ a ?_);simp
     refine bf m [(17,l),(20,f),(25,l),(29,l),(1000003,f)] a O8 (du _ _ a ?_);simp
    have K:∀y:Z,Y (aj.aJ V) 133 [ax .bo,oa y] [] (bh l) []:=λy=>Ty y;generalize pD i b j q=J at *;obtain⟨W,R⟩:=J;cases R with
    |none=>
     have x:=B;refine cJ m a v (g.aF x [0,1] a (bf m [(1000005,f)] a v (g.hK 12 6 a a λA=>?_)));refine cJ m a v (g.g4 40 a ?_);exact g.aF (K _) [] a (bf m [(41,l)] a E nN)
    |some T=>
     have x:=B;refine cJ m a v (g.aF x [0,1] a (bf m [(1000005,f)] a v (g.hK 12 6 a a λA=>?_)));refine g.iL 11 a λI=>?_;refine cJ m a v (g.g4 40 a ?_);refine g.aF (Tw I A) [2,6] a (bf m [(41,f)] a E (g.aF (pe b p.a2 p.bp p.a7 p.bx p.aN) [] a (qQ m [] 2 a v (g.hL ?_))));exact g.bw 7 a a a E E (g.bw 8 a a a E E Pf)
   have o:qD i b j q=(([],[],[]),l):=bm λs=>k s.2.2;rw[o];have t:dV q=l:=M;rcases d with rfl|rfl
   .exact bf m [(17,l),(20,l),(25,l),(29,f)] a Qr nN
   exact bf m [(17,l),(20,f),(25,l),(29,f)] a Qr nN
  have o:qD i b j q=(([],[],[]),l):=bm λs=>d s.2.1;rw[o];exact bf m [(17,l),(20,f),(25,f),(29,f)] a bK nN
 have o:qD i b j q=(([],[],[]),l):=bm λs=>e s.1;rw[o];refine bf m [(17,f),(25,f),(29,f)] a ?_ ?_
 .simp only[U,a2.E,bj.E,a1.E];and_intros<;>first|rfl|exact True.intro|exact a2.U _|exact bj.U _|exact a1.U _|exact a'|grind
 exact nN
section
variable {r:aj V}
def T4(b)(d:dN b):Y r 70 [b1 b] [] (b1 b) []:=by refine(qq b d.a2 d.bp d.a7 d.bx d.aN).b2 a ?_ a;simp
abbrev Bo:bL:=df o9 (λa=>b1 a) λa=>[dN a]
def My:bM r 70 Bo:=.ba λb a=>T4 b a
def Is(b)(e:dN b.1)(j:c b.2.1<=4000000)(m:c b.2.2<=4000000):Y r 43 [fQ b] [] (.n (.agg [cI a2 b.1.1,cI bj b.1.2.1,cI a1 b.1.2.2,cI aA b.2.1,.r 0 1 (c b.2.2) (aA.fn b.2.2)])) [.r 3 1 (c b.2.2) (aA.fn b.2.2)]:=by
 refine Y.bl bd func43 rfl rfl rfl λk=>?_;have i:a8 r [(70,Bo)]:=.cons My .nil;refine bf i [(2000009,f)] a ?_ ?_
 .simp only[U,a2.E,a2.U,bj.E,bj.U,a1.E,a1.U,e,ba,a9,show ec.bytes=8 from a,lD];exact fr
 refine g.bf [gh b,.cells 30 [cI a2 b.1.1,cI bj b.1.2.1,cI a1 b.1.2.2,cI aA b.2.1,.r 2 1 (c b.2.2) (aA.fn b.2.2)],.r 3 1 (c b.2.2) (aA.fn b.2.2)] a ?_ ?_
 .simp[a2.E,bj.E,a1.E,o_]
 refine g.bh () [2] ?_ (λo d=>absurd d E);simp
def T6(b)(d:dN b.1)(e:c b.2.1<=4000000)(g:c b.2.2<=4000000):Y r 43 [fQ b] [] (fQ b) []:=
 (Is b d e g).b2 a E a
abbrev xt:bL:=df (An Cw) (λa=>fQ a) λa=>[dN a.1,c a.2.1<=4000000,c a.2.2<=4000000]
def En:bM r 43 xt:=.ba λb a=>T6 b a.1 a.2.1 a.2.2
abbrev J9(b:b')(a:m cW):m an:=[xv b,.cells 70 [.c (.int .i64 0),cB],.cells 70 [.c (.int .i64 b.1),.r 3 2 (c a) (bG.fn a)],.r 103 2 (c a) (bG.fn a)]
def CC{d}{a:α->Bool}(g:e<c d)(b):(d.take (e+1)).filter a=if a (d.getD e b)=f then(d.take e).filter a++[d.getD e b]else(d.take e).filter a:=by rw[ie g b,List.filter_append,sA];split<;>simp
def CB(d)(a:α->Bool)(b:e<=c d):c ((d.take e).filter a)<=e:=fG (kB _ _) bV
def Vz(R)(b)(C:c R.2<=4000000):Y r 71 [fA R,aA.S b] [] (fA (hB R b)) []:=by
 refine Y.bl bd func71 rfl rfl rfl λp=>?_;have j:a8 r [(55,uQ)]:=.cons zj .nil;refine bf j [(1000002,f)] a v (g.cl 2 1 103 2 (bG.fn []) a a ?_);refine b_ j a v ?_;refine g.aL 4 (λe=>e<=c R.2) (λe:Nat=>[(1,aA.S b),(2,aG 0 0),(4,aG 1 0),(5,aG 2 0),(6,S e)])
  (λe=>J9 R ((R.2.take e).filter λd=>b.contains d.1)) (λe=>c R.2-e) 0 a E a E a y ?_
 intro e k;have o:=CB R.2 (λd=>b.contains d.1) k;by_cases u:e<c R.2
 .have I:R.2.getD e bG.I=d9 R e:=rfl;have s:(R.2.take (e+1)).filter (λd=>b.contains d.1)=if b.contains (d9 R e).1=f then(R.2.take e).filter (λd=>b.contains d.1)++[d9 R e]else(R.2.take e).filter (λd=>b.contains d.1):=CC u (0,[]);generalize(R.2.take e).filter (λd=>b.contains d.1)=m at *;generalize d9 R e=d at *;cases ae:b.contains d.1 with
  |true=>
   rw[br ae]at s;have C:=bG.a0 m d;refine bf j [(15,f),(25,f)] a NT (g.aA (e+1) a E ?_ u y);exact N6
  |false=>
   rw[bm dA]at s;refine bf j [(15,f),(25,l)] a Pw (g.aA (e+1) a E ?_ u y);simp_all
 exact Pa
abbrev G5:bL:=en (jz bG) (e0 aA) (λb a=>fA (hB b a)) λb _=>[c b.2<=4000000]
def adO:bM r 71 G5:=.bm λd a b=>Vz d a b
abbrev jY(b:dT)(a:Bool):z:=.Q [.agg (v6 b),.aq (.c (.bool a))]
abbrev l9:m O:=[cB,cB,cB,cB,cB]
def stepT(b:Int)(a:m Int)(d:m b')(e:Nat):m b':=fg b a (d.take e)
def acS{bS}{cr}{ab}(a:e<c ab):stepT bS cr ab (e+1)=if(iT bS cr (ab.getD e (0,[]))).2.length=0 then stepT bS cr ab e else stepT bS cr ab e++[iT bS cr (ab.getD e (0,[]))]:=by unfold stepT fg;rw[ie a (0,[]),List.map_append,List.filter_append,List.map_singleton];grind
def acR(bS)(cr)(ab)(a:e<=c ab):c (stepT bS cr ab e)<=e:=by unfold stepT fg;grind
def Xg(b)(k:dN b.1)(e:c b.2.1<=4000000)(j:b.2.2=[]):Y r 42 [fQ b] [] (jY b l) []:=by refine Y.bD func42 rfl rfl rfl λi=>?_;have d:a8 r [(43,xt)]:=.cons En .nil;refine bf d [(13,f)] a bK ?_;refine g.freeze 2 1 a a a ?_;refine g.cp bd [] a ?_ a a a fI;simp[a2.E,bj.E,a1.E,aA.E]
abbrev acW(b:cq)(a:m Int)(e:m Int)(d:m b'):m an:=[gh (b,a,e),.cells 30 l9,gh (b,a,e),.r 70 2 (c d) (a2.fn d)]
def _root_.Go.AM.cZ.iV(a:cZ α)(o)(d)(g:k=c d):bt k (fx 1 (a.fn (o::d))) (a.fn d):=by intro e b;simp only[fx,cZ.fn,gr,al,Nat.add_comm 1 e,n2]
def Xh(b)(cr m)(bS)(w)(F:m=bS::w)(x:dN b)(K:c cr<=4000000)(J:c m<=4000000):Y r 42 [fQ (b,cr,m)] [] (jY ((fg bS cr b.1,b.2),cr,w) f) []:=by
 refine Y.bD func42 rfl rfl rfl λO=>?_;have o:a8 r [(43,xt),(71,G5)]:=.cons En (.cons adO .nil);have M:0<c m:=dA;refine bf o [(13,l),(1000005,f)] a ?_ ?_
 .simp only[U,a2.E,a2.U,bj.E,bj.U,a1.E,a1.U,aA.E,aA.U,x,K,J,ba,a9,eX,dZ];omega
 refine g.bK 5 70 2 a a ?_;refine cJ o a v ?_;have N:=x.a2;refine g.aL 4 (λe=>e<=c b.1) (λe:Nat=>[(1,aG 0 0),(2,aG 1 0),(4,aG 2 0),(5,.n (.aq (.r 3 2 (c (stepT bS cr b.1 e)) (a2.fn (stepT bS cr b.1 e))))),(6,S e)])
  (λe=>acW b cr m (stepT bS cr b.1 e)) (λe=>c b.1-e) 0 a ?_ a ?_ a y ?_
 .simp[stepT,fg]
 .simp[stepT,fg,a2.E,bj.E,a1.E,aA.E]
 intro e u;by_cases p:e<c b.1
 .have I:b.1.getD e a2.I=b.1.getD e (0,[]):=rfl;have A:=x.bp _ (my p (0,[]));have j:=acS (bS:=bS) (cr:=cr) p;have Q:=acR bS cr b.1 u;have t:m.getD (Int.toNat 0) aA.I=bS:=bK;generalize stepT bS cr b.1 e=z at *;generalize b.1.getD e (0,[])=i at *;by_cases k:i.1=bS
  .have C:iT bS cr i=hB i cr:=by unfold iT;exact bw
   rw[C]at j;have d:=a2.a0 z (hB i cr);have R:(hB i cr).2.length<=c i.2:=kB _ _;have s:(i.1,i.2)=i:=rfl;by_cases q:(hB i cr).2.length=0
   .rw[br q]at j;refine bf o [(21,f),(36,f),(44,l)] a ?_ (g.aA (e+1) a ?_ ?_ p y)
    .simp only[U,c5,I,t,s,A,bG.E,bG.U,aA.E,aA.U,a7,bA,dj,hg,ba,a9];exact zF
    .rw[j];simp
    rw[j];simp
   rw[bm q]at j;refine bf o [(21,f),(36,f),(44,f)] a ?_ (g.aA (e+1) a ?_ ?_ p y)
   .simp only[U,c5,I,t,s,A,bG.E,bG.U,aA.E,aA.U,a7,show nv.bytes=32 from a,bA,dj,hg,ba,a9];exact zF
   .exact Qc
   exact Qc
  have C:iT bS cr i=i:=by unfold iT;exact bw
  rw[C]at j;have d:=a2.a0 z i;by_cases q:c i.2=0
  .rw[br q]at j;refine bf o [(21,f),(36,l),(44,l)] a ?_ (g.aA (e+1) a ?_ ?_ p y)
   .simp only[U,c5,I,t,a7,bA,dj,eX,dZ,ba,a9];exact zF
   .rw[j];simp
   rw[j];simp
  rw[bm q]at j;refine bf o [(21,f),(36,l),(44,f)] a ?_ (g.aA (e+1) a ?_ ?_ p y)
  .simp only[U,c5,I,t,a7,show nv.bytes=32 from a,bA,dj,eX,dZ,ba,a9];exact zF
  .exact Qd
  exact Qd
 obtain rfl:e=c b.1:=y;have D:stepT bS cr b.1 (c b.1)=fg bS cr b.1:=by unfold stepT;simp
 rw[D];refine bf o [(21,l)] a E (g.aC ?_);refine cJ o a bw (g.freeze 2 1 a a a ?_);refine g.cp bd [] a ?_ a a a fI;have B:=aA.iV bS w a;rw[<-F]at B;simp only[U.Y,U,bT,ba,a9];and_intros<;>first|exact bt.same|exact B|simp_all|grind|rfl
def qy(a:dT):Bool:=!a.2.2.isEmpty
def Xf(a)(g:dN a.1)(i:c a.2.1<=4000000)(m:c a.2.2<=4000000):Y r 42 [fQ a] [] (jY (js a) (qy a)) []:=by
 obtain⟨e,b,k⟩:=a;cases k with
 |nil=>exact Xg (e,b,[]) g i rfl
 |cons d j=>exact Xh e b (d::j) d j rfl g i m
abbrev Gp(d:cq)(a:m eF)(b:m Int):m an:=[jV d,.cells 30 l9,.cells 30 [cI a2 d.1,.r 4 2 (c a) (bj.fn a),cI a1 d.2.2,cB,.r 5 1 (c b) (aA.fn b)],jV d,.r 74 2 (c a) (bj.fn a),.r 3 1 (c b) (aA.fn b)]
def map_take{b:Type}{d}{ae:α->b}(g:e<c d)(a):(d.take (e+1)).map ae=(d.take e).map ae++[ae (d.getD e a)]:=by rw[ie g a,List.map_append];rfl
def F9(d)(a:eF->Bool):c (hh (d.filter a))<=c (hh d):=by
 induction d with
 |nil=>simp
 |cons e d b=>
  unfold hh at *;grind
def TH(i)(b)(j)(p:dN b)(z:pZ b):Y r 41 [S i,b1 b,aA.S j] [] (jY (kF i b j).1 (kF i b j).2) []:=by
 refine Y.bD func41 rfl rfl rfl λN=>?_;have m:a8 r [(56,Bx),(70,Bo),(55,uQ),(54,Bq)]:=.cons MJ (.cons My (.cons zj (.cons MB .nil)));have M:=p.a2;have F:=p.a7;unfold kF;cases t:hV i b with
 |false=>
  refine bf m [(15,f)] a ?_ ?_
  .simp only[U,a2.E,a2.U,bj.E,bj.U,a1.E,a1.U,t,p.a2,p.a7,ba,a9,ip];exact z.dX
  refine g.freeze 6 1 a a a ?_;exact Qe
 |true=>
 rw[br a];refine bf m [(15,l),(1000006,f)] a ?_ ?_
 .simp only[U,a2.E,a2.U,bj.E,bj.U,a1.E,a1.U,t,p.a2,p.a7,p,ba,a9,f_];exact z.dX
 refine g.cl 2 1 74 2 (bj.fn []) a a ?_;refine g.cl 2 4 3 1 (aA.fn []) a a ?_;refine cJ m a v ?_;refine g.aL 6 (λe=>e<=c b.2.1) (λe:Nat=>[(2,aA.S j),(4,aG 0 0),(6,aG 1 0),(8,aG 2 0),(9,aG 3 0),(10,S e)])
  (λe=>Gp b ((b.2.1.take e).filter λk=>j.contains k.1) []) (λe=>c b.2.1-e) 0 a ?_ a ?_ a y ?_
 .simp
 .simp[a2.E,bj.E,a1.E]
 intro e q;have C:=CB b.2.1 (λk=>j.contains k.1) q;by_cases o:e<c b.2.1
 .have w:b.2.1.getD e bj.I=b.2.1.getD e (0,[]):=rfl;have s:(b.2.1.take (e+1)).filter (λk=>j.contains k.1)=if j.contains (b.2.1.getD e (0,[])).1=f then(b.2.1.take e).filter (λk=>j.contains k.1)++[b.2.1.getD e (0,[])]else(b.2.1.take e).filter (λk=>j.contains k.1):=CC o (0,[]);generalize(b.2.1.take e).filter (λk=>j.contains k.1)=x at *;generalize b.2.1.getD e (0,[])=k at *;cases A:j.contains k.1 with
  |true=>
   rw[br A]at s;have d:=bj.a0 x k;refine bf m [(30,f),(40,f)] a ?_ (g.aA (e+1) a E ?_ o y)
   .simp[-al,-List.contains_eq_mem,w,o,A,aA.E,aA.U,a7,show rI.bytes=32 from a];omega
   exact Qj
  |false=>
   rw[bm dA]at s;refine bf m [(30,f),(40,l)] a ?_ (g.aA (e+1) a E ?_ o y)
   .simp[-al,-List.contains_eq_mem,w,o,A,aA.E,aA.U,a7];omega
   simp_all
 obtain rfl:e=c b.2.1:=y;rw[c9]at C⊢;have D:=F9 b.2.1 λk=>j.contains k.1;have I:lq (b.1,b.2.1.filter (λk=>j.contains k.1),b.2.2):=λk d=>p.bx k (kD.1 d).1;have J:=z.ey;generalize b.2.1.filter (λk=>j.contains k.1)=B at *;refine bf m [(30,l)] a E (g.aC ?_);refine cJ m a v ?_;refine g.aL 6 (λe=>e<=c b.1) (λe:Nat=>[(2,aA.S j),(4,aG 0 0),(6,aG 1 0),(8,aG 2 0),(11,S e)])
  (λe=>Gp b B ((b.1.take e).map (·.1))) (λe=>c b.1-e) 0 a E a E a y ?_
 intro e q;have K:c ((b.1.take e).map (·.1))=e:=bV;by_cases o:e<c b.1
 .have w:b.1.getD e a2.I=b.1.getD e (0,[]):=rfl;have s:=map_take (ae:=λu:b'=>u.1) o (0,[]);generalize(b.1.take e).map (λu:b'=>u.1)=x at *;generalize b.1.getD e (0,[])=u at *;have d:=aA.a0 x u.1;refine bf m [(57,f)] a ?_ (g.aA (e+1) a E ?_ o y)
  .simp[-al,w,o,a7,show ec.bytes=8 from a];omega
  exact Qj
 obtain rfl:e=c b.1:=y;rw[c9];refine bf m [(57,l)] a E (g.aC ?_);refine cJ m a bK (g.freeze 8 2 a a a ?_);refine g.freeze 6 1 a a a ?_;refine g.cp bd [] a ?_ a a a fI;simp[bj.E]
abbrev GM:bL:=kg c8 o9 (e0 aA) (λd a b=>jY (kF d a b).1 (kF d a b).2) λ_ a _=>[dN a,pZ a]
def adp:bM r 41 GM:=.cZ λd e b a=>TH d e b a.1 a.2
def rH(a:dL)(b:b'):b':=if b.1=a.2.1/\0<=a.2.2.1/\a.2.2.1<c b.2 then(b.1,gI b.2 a.2.2.1.toNat a.2.2.2)else b
def mF(a:cq)(b:dL):cq:=
 if b.1=1 then(a.1.filter λd=>!(d.1==b.2.1),a.2.1,a.2.2)
 else if b.1=2 then(if b.2.1<0∨b.2.1>c a.2.2 then a else(a.1,a.2.1.filter λd=>!jo b.2.1.toNat a.2.2 d,a.2.2.take b.2.1.toNat))
 else if b.1=3 then(a.1.map (rH b),a.2)
 else if b.1=4 then(if 0<=b.2.1/\b.2.1<c a.2.2 then(a.1,a.2.1,a.2.2.set b.2.1.toNat (3-(a.2.2.getD b.2.1.toNat (0,0)).1,(a.2.2.getD b.2.1.toNat (0,0)).2))else a)
 else a
def JI{b}{d}(e:pV b d):b.1.map (rH d)=b.1:=by apply rm E;intro g i a;rw[List.getElem_map];have:=e g a;rw[al,bI a,iq]at this;exact bm this
def JH{b}{d}{i0}(a:sj b d i0 A):b.1.map (rH d)=(g0 b d i0 A).1:=by
 have o:=a.a9;apply p';intro e;have k:(g0 b d i0 A).1=b.1.set i0 ((b.1.getD i0 (0,[])).1,gI (b.1.getD i0 (0,[])).2 A d.2.2.2):=rfl;rw[k,m'];by_cases i:e<c b.1
 .have s:b.1[e]?=h (b.1.getD e (0,[])):=M;by_cases g:e=i0
  .subst g;rw[im i,s];have p:=a.gr;have j:=a.bX;simp only[lF,rH];rw[br ⟨a.db,by omega,by omega⟩,j,c5]
  rw[kC (λa=>g a.symm),s];simp only[lF,rH];rw[bm (λm=>a.b3 e i g m.1)]
 grind
structure RF(r:aj V)(b:cq)(d:dL)(az:cq):Prop where
 ev:dN az
 c8:Y r 69 [b1 b,ei d] [] (b1 az) []
def tL{b}(m:oU b)(d):RF r b d (mF b d):=by
 have a:=m.size;have C:=a.aN;unfold mF;by_cases o:d.1=1
 .rw[br o];exact⟨⟨fG (kB _ _) a.a2,λt g=>a.bp t (kD.1 g).1,a.a7,a.bx,a.aN⟩,WV b d a o⟩
 rw[bm o];by_cases i:d.1=2
 .rw[br i];by_cases e:d.2.1<0∨d.2.1>c b.2.2
  .rw[br e];exact⟨a,IZ b d b a i (TB b d.2.1 a.aN e)⟩
  rw[bm e];have p:d.2.1=(d.2.1.toNat:Nat):=y;have u:=TC (r:=r) b d.2.1.toNat y a.a7 m.num a.aN;rw[<-p]at u;refine⟨⟨a.a2,a.bp,fG (kB _ _) a.a7,λB z=>a.bx B (kD.1 z).1,?_⟩,IZ b d _ a i u⟩;simp;omega
 rw[bm i];by_cases e:d.1=3
 .rw[br e];rcases JJ m d with⟨i0,A,q⟩|p
  .have s:(b.1.map (rH d),b.2)=g0 b d i0 A:=by rw[JH q]
   rw[s];refine⟨⟨by simpa using a.a2,λt g=>?_,a.a7,a.bx,a.aN⟩,WW b d a e i0 A q⟩;rcases Ar g with g|rfl
   .exact a.bp t g
   simpa[gI]using a.bp _ (vb q.a9)
  rw[JI p];exact⟨a,W2 b d a e p⟩
 rw[bm e];by_cases j:d.1=4
 .rw[br j];by_cases k:0<=d.2.1/\d.2.1<c b.2.2
  .rw[br k];have w:(b.2.2.getD (0+d.2.1.toNat) a1.I)∈b.2.2:=M;have u:=m.aN _ w;have x:a7 .i64 (3-lv b d):=Q6;have v:=WY (r:=r) b d a j k.1 k.2 x;have s:b.2.2.set (0+d.2.1.toNat) (3-lv b d,(b.2.2.getD (0+d.2.1.toNat) a1.I).2)=b.2.2.set d.2.1.toNat (3-(b.2.2.getD d.2.1.toNat (0,0)).1,(b.2.2.getD d.2.1.toNat (0,0)).2):=M;rw[s]at v;exact⟨⟨a.a2,a.bp,a.a7,a.bx,by simpa using a.aN⟩,v⟩
  rw[bm k];exact⟨a,WZ b d a j k⟩
 rw[bm j];exact⟨a,W1 b d a o i e j⟩
def C3{b}(o:oU b)(d):Y r 32 [b1 b,ei d] [] (b1 (mF b d)) []:=by
 have e:=o.size;have v:=e.aN;unfold mF;by_cases k:d.1=1
 .rw[br k];exact VE b d e k
 rw[bm k];by_cases g:d.1=2
 .rw[br g];by_cases a:d.2.1<0∨d.2.1>c b.2.2
  .rw[br a];exact Cn (VI b d e g a)
  rw[bm a];have m:d.2.1=(d.2.1.toNat:Nat):=y;exact VG b d e g d.2.1.toNat m y
 rw[bm g];by_cases a:d.1=3
 .rw[br a];rcases JJ o d with⟨i0,A,p⟩|m
  .have q:(b.1.map (rH d),b.2)=g0 b d i0 A:=by rw[JH p]
   rw[q];exact VJ b d e a i0 A p
  rw[JI m];exact VL b d e a m
 rw[bm a];by_cases i:d.1=4
 .rw[br i];by_cases j:0<=d.2.1/\d.2.1<c b.2.2
  .rw[br j];have s:(b.2.2.getD (0+d.2.1.toNat) a1.I)∈b.2.2:=M;have w:=o.aN _ s;have t:a7 .i64 (3-lv b d):=Q6;have u:=VO (r:=r) b d e i j.1 j.2 t;grind
  rw[bm j];exact VN b d e i j
 rw[bm i];exact Cn (VP b d e k g a i)
def Sj{d:cq}(b:oU d)(a:dL):Rr r d a (mF d a):=⟨(tL (r:=r) b a).ev,C3 b a,(tL b a).c8⟩
structure m3(d:m (Int×Int)):Prop where
 aN:∀o∈d,(1<=o.1/\o.1<=2)/\1<=o.2/\o.2<=20
 cx:c d<=9
theorem m3.of{d}(a:g8 d=f):m3 d:=⟨(Kb a).1,(Kb a).2⟩
def m3.take{d}(a:m3 d)(e):m3 (d.take e):=⟨λg b=>a.aN g (hf b),by have:=a.cx;rw[List.length_take];omega⟩
def Mr{d}(a:e<c d):gw (d.take (e+1))=64*gw (d.take e)+21*(d.getD e (0,0)).1+(d.getD e (0,0)).2:=by unfold gw;rw[ie a (0,0),uy];rfl
def Xp(d)(e:m3 d):Y r 116 [a1.S d] [] (S (gw d)) []:=by
 refine Y.K func116 rfl λo=>?_;have t:=e.cx;refine aZ a v (g.aL 0 (λb=>b<=c d) (λb:Nat=>[(0,a1.S d),(3,S (gw (d.take b))),(4,S b)]) (λ_=>[]) (λb=>c d-b) 0 a (by simp[gw]) a v a y ?_);intro b k;by_cases i:b<c d
 .have j:d.getD b a1.I=d.getD b (0,0):=rfl;have q:=Mr i;have p:=zi e.aN e.cx b;have m:=zi e.aN e.cx (b+1);have s:=e.aN _ (my i (0,0));refine a6 [(8,f)] a ?_ (g.aA (b+1) a ?_ v i y)
  .simp only[U,c5,j,a7,bA,ba,a9];exact fr
  simp only[U.Y,U,c5,j,ba,a9];and_intros<;>first|exact bt.same|omega
 obtain rfl:b=c d:=y;rw[c9];exact Pt
abbrev Ho:bL:=df (e0 a1) (λa=>S (gw a)) λa=>[m3 a]
def aeb:bM r 116 Ho:=.ba λb a=>Xp b a
abbrev ql(a:Int×Int):z:=.n (.agg [.c (.int .i64 a.1),.c (.int .i64 a.2)])
abbrev pJ(a:(Int×Int)×Int):z:=.Q [.agg [.c (.int .i64 a.1.1),.c (.int .i64 a.1.2)],.aq (.c (.int .i64 a.2))]
def WU(A)(d)(u:c d<=4000000):Y r 68 [ql A,a1.S d] [] (pJ (mG A d)) []:=by
 refine Y.bD func68 rfl rfl rfl λt=>?_;have b:a8 r [(97,n7),(116,Ho)]:=.cons MA (.cons aeb .nil);unfold mG;cases bU:g8 d with
 |false=>
  rw[bm E];exact bf b [(8,f),(15,f),(20,f)] a FC sc
 |true=>
 have i:=m3.of bU;by_cases m:A.1<=c d
 rotate_left
 .rw[bm (by simp[m])];exact bf b [(8,l),(15,f),(20,f)] a QW sc
 by_cases I:0<=A.1
 rotate_left
 .rw[bm sh];exact bf b [(8,l),(15,l),(20,f)] a P7 sc
 rw[br ⟨rfl,m,I⟩];have s:(A.1.toNat:Int)=A.1:=rk I;have o:a1.af (bT (c d) (h A.1)-bT 0 n) (fx (bT 0 n) (a1.fn d))=d.take A.1.toNat:=by have p:bT (c d) (h A.1)-bT 0 n=A.1.toNat:=wF;rw[p,a1.hn d (λq j=>by simp[fx,bT]) y]
 have k:a1.bU (bT (c d) (h A.1)-bT 0 n) (fx (bT 0 n) (a1.fn d)):=a1.g9 d (λq j=>by simp[fx,bT]);by_cases e:gw (d.take A.1.toNat)=A.2
 .rw[br e];refine bf b [(8,l),(15,l),(20,l),(29,l)] a ?_ ?_
  .simp only[U,jf,o,k,bU,i,i.take,e,a1.E,a1.U,f_,bA,dj,h0,ba,a9];omega
  refine g.freeze 4 1 a a a ?_;exact g.cp bd [] a (by simp[a1.E]) a a a fI
 rw[bm e];refine bf b [(8,l),(15,l),(20,l),(29,f)] a ?_ ?_
 .simp only[U,jf,o,k,bU,i,i.take,a1.E,a1.U,f_,bA,dj,jC,ba,a9];and_intros<;>first|exact e|omega
 exact sc
def fV(d:Int)(b:dT)(a:Int)(e:m c'):dT×Bool:=
 if rQ d b a e=f then(if fJ d b.1 e=f then(b,l)else(rX d b a e,f))else(kV,l)
structure p0(Q:dT):Prop where
 bc:dN Q.1
 b8:pZ Q.1
 cx:c Q.2.1<=4000000
 cL:c Q.2.2<=4000000
def fb.b9{b}(a:fb k b)(d:k<=1000000):p0 b:=⟨a.bc.toj6.dv,a.jZ,by have:=a.b8;omega,by have:=a.cL;omega⟩
def Xu(i)(b)(cg)(q)(m:p0 b):Y r 67 [S i,fQ b,S cg,bD.S q] [] (jY (fV i b cg q).1 (fV i b cg q).2) []:=by
 refine Y.bD func67 rfl rfl rfl λL=>?_;have k:a8 r [(28,By),(27,jI),(38,sN),(43,xt),(93,Br),(94,xq)]:=.cons ML (.cons ku (.cons t38 (.cons En (.cons MC (.cons El .nil)))));have aa:=m.b8;have x:(b.1,b.2.1,b.2.2)=b:=rfl;have V:fV i b cg q=if ha i b=f then(if 1<=cg/\cg<=2 then(if dV q=f then(if fJ i b.1 q=f then(b,l)else(rX i b cg q,f))else(kV,l))else(kV,l))else(kV,l):=by unfold fV rQ;by_cases ae:ha i b=f<;>by_cases C:1<=cg/\cg<=2<;>by_cases t:dV q=f<;>simp[ae,C,t]
 rw[V];cases ae:ha i b with
 |false=>
  rw[bm E];refine bf k [(18,f),(23,f),(28,f)] a ?_ ?_
  .simp only[U,a2.E,a2.U,bj.E,bj.U,a1.E,a1.U,aA.E,aA.U,x,ae,aa,ip,ba,a9]
  exact zH
 |true=>
 rw[br a];by_cases C:1<=cg/\cg<=2
 rotate_left
 .rw[bm C];refine bf k [(18,l),(23,f),(28,f)] a ?_ ?_
  .simp only[U,a2.E,a2.U,bj.E,bj.U,a1.E,a1.U,aA.E,aA.U,x,ae,aa,f_,ba,a9];grind
  exact zH
 rw[br C];cases t:dV q with
 |false=>
  rw[bm E];exact bf k [(18,l),(23,l),(28,f)] a Fs zH
 |true=>
 rw[br a];have s:=v8.1 ae;have aR:=s.tomh.gF;have K:=aR.e';have o:=WQ (r:=r) i b.1 cg q s.key m.bc K (r8 t) aR.j7;cases w:fJ i b.1 q with
 |true=>
  rw[w,br a]at o;rw[br a];refine bf k [(18,l),(23,l),(28,l)] a Fs (g.aF o [] a (bf k [(42,f)] a ?_ ?_))
  .simp only[U,a2.E,a2.U,bj.E,bj.U,a1.E,a1.U,aA.E,aA.U,x,m.bc,m.cx,m.cL,f_,ip,ba,a9]
  refine g.freeze 8 1 a a a ?_;exact g.cp bd [] a zT a a a fI
 |false=>
 rw[w,bm E]at o;rw[bm E];refine bf k [(18,l),(23,l),(28,l)] a Fs (g.aF o [] a ?_);have F:=aR.dc (i:=i) (q:=q) (cg:=cg) (by have:=xe 1 s.dq λp J=>(s.a7 p J).1;omega) t w;have O:(hU i b.1 cg q).2.1.length=c b.1.2.1+1:=by simp[hU]
 have R:(hU i b.1 cg q).2.1.getD ((hU i b.1 cg q).2.1.length-1) (0,[])=gS (dF b.1) i q:=by rw[O];simp[hU,al]
 have N:=F.c0 (gS (dF b.1) i q) M;have X:=wa N.2;have H:=tp (gS (dF b.1) i q).2;have G:=F.ew;have W:=m.cx;unfold rX;generalize hU i b.1 cg q=j at *;generalize gS (dF b.1) i q=p at *;have T:((c j.2.1:Int)-1).toNat=c j.2.1-1:=y;have A:j.2.1.getD ((c j.2.1:Int)-1).toNat bj.I=p:=by rw[T];exact R
 refine bf k [(42,l)] a ?_ ?_
 .simp only[U,A,a2.E,a2.U,bj.E,bj.U,a1.E,a1.U,aA.E,aA.U,cv.E,cv.U,x,m.bc,m.cx,m.cL,a7,f_,ip,ba,a9];omega
 rw[A];simp only[cv.E];generalize gG p.2=d at *;refine g.aL 4 (λe=>e<=c d) (λe:Nat=>[(5,aG 0 0),(8,aG 1 0),(10,aG 2 0),(12,aG 3 0),(13,aA.S d),(14,S e)])
  (λe=>[gh b,.cells 30 l9,jV j,gh (j,(d.take e).foldl e6 b.2.1,b.2.2)]) (λe=>c d-e) 0 a ?_ a ?_ a y ?_
 .simp
 .exact zT
 intro e Q;by_cases u:e<c d
 .have D:d.getD e aA.I=d.getD e 0:=rfl;have z:=yf e6 b.2.1 u;have I:=qu b.2.1 (d.take e);rw[List.length_take]at I;generalize(d.take e).foldl e6 b.2.1=ja at *;have B:=aA.E ja;refine bf k [(58,f)] a ?_ (g.aA (e+1) a ?_ ?_ u y)
  .simp[-al,D,u,B,aA.U,a7];omega
  .simp
  rw[z];simp[-al,D,B]
 obtain rfl:e=c d:=y;rw[c9];refine bf k [(58,l)] a E (g.aC ?_);exact cJ k a v zH
def I4(d)(b:m3 d)(A)(s:A<=c d):Y r 161 [ax (iw d),S A] [] (S (gw (d.take A))) []:=by
 refine Y.K func161 rfl λt=>?_;have x:=b.cx;refine aZ a v (g.loop (λe=>e<=A) (λe:Nat=>[(0,ax (iw (d.drop e))),(1,S ((A:Int)-e)),(5,S (gw (d.take e)))]) (λ_=>[]) (λe=>A-e) 0 y (.cons a (eD a (by simp[gw]))) a ?_);intro e o;by_cases m:e<A
 .have i:=Mr (d:=d) (e:=e) y;have u:=zi b.aN b.cx e;have q:=zi b.aN b.cx (e+1);have w:=b.aN _ (my (e:=e) (d:=d) y (0,0));rw[Ib (e:=e) y]
  generalize d.getD e (0,0)=p at *;generalize k:d.drop (e+1)=j;cases j<;>(
   refine aZ a v (g.aO (tC a underlying190 a a a) a a ?_);refine a6 [(8,f),(11,f)] a ?_ ⟨e+1,m,by omega,.cons (by rw[k];rfl) (eD a ?_),a⟩
   .simp only[U,a7,bA,ba,a9];exact Fq
   .simp only[U.Y,U,ba,a9];and_intros<;>omega)
 obtain rfl:e=A:=y;generalize d.drop e=j;cases j with
 |nil=>
  refine aZ a v (g.aO (rR a underlying190 a a a) a a ?_);refine a6 [(8,l),(11,l)] a E (g.bt a a ?_);exact wy
 |cons p j=>
  refine aZ a v (g.aO (tC a underlying190 a a a) a a ?_);refine a6 [(8,f),(11,l)] a E (g.bt a a ?_);exact wy
def VV(d)(j:c d<=4000000):Y r 162 [a1.S d] [] (S (if g8 d=f then gw d else -1)) []:=by
 refine Y.K func162 rfl λk=>?_;have i:=IJ (r:=r) d j;cases bU:g8 d with
 |false=>
  have b:a8 r [(122,n7)]:=.cons tP .nil;refine bf b [(5,f)] a FC (g.aw a)
 |true=>
  have e:=I4 (r:=r) d (.of bU) (c d) (bC _);rw[c9]at e;have b:a8 r [(122,n7),(160,ev [a1.S d] (ax (iw d))),(161,ev [ax (iw d),S (c d)] (S (gw d)))]:=.cons tP (.cons (eI i) (.cons (eI e) .nil));generalize gw d=m at *;cases d<;>(
   refine bf b [(5,l)] a ?_ (g.aw a);simp only[U,bU,a1.E,a1.U,f_,ba,a9]
   and_intros<;>rfl)
def WT(A)(d)(j:c d<=4000000):Y r 131 [ql A,a1.S d] [] (pJ (mG A d)) []:=by
 refine Y.bD func131 rfl rfl rfl λu=>?_;have o:=IJ (r:=r) d j;have i:=VV (r:=r) d j;have e:a8 r [(122,n7)]:=.cons tP .nil;unfold mG;cases bU:g8 d with
 |false=>
  rw[bm E];exact bf e [(9,f),(16,f),(21,f)] a FC sc
 |true=>
 have s:=m3.of bU;by_cases k:A.1<=c d
 rotate_left
 .rw[bm (by simp[k])];exact bf e [(9,l),(16,f),(21,f)] a QW sc
 by_cases I:0<=A.1
 rotate_left
 .rw[bm sh];exact bf e [(9,l),(16,l),(21,f)] a P7 sc
 rw[br ⟨rfl,k,I⟩];have q:(A.1.toNat:Int)=A.1:=rk I;have m:=I4 (r:=r) d s A.1.toNat y;rw[br bU]at i;rw[q]at m;have hJ:a8 r [(122,n7),(160,ev [a1.S d] (ax (iw d))),(161,ev [ax (iw d),S A.1] (S (gw (d.take A.1.toNat)))),(162,ev [a1.S d] (S (gw d)))]:=.cons tP (.cons (eI o) (.cons (eI m) (.cons (eI i) .nil)));generalize gw d=t at *;generalize gw (d.take A.1.toNat)=p at *;by_cases b:p=A.2
 .rw[br b];cases d<;>(
   refine bf hJ [(9,l),(16,l),(21,l),(23,l)] a ?_ ?_
   .simp only[U,bU,b,a1.E,a1.U,f_,bA,dj,h0,ba,a9];exact q4
   refine g.freeze 4 1 a a a ?_;exact g.cp bd [] a E a a a fI)
 .rw[bm b];cases d<;>(
   refine bf hJ [(9,l),(16,l),(21,l),(23,f)] a ?_ ?_
   .simp only[U,bU,a1.E,a1.U,f_,bA,dj,jC,ba,a9];and_intros<;>first|exact b|rfl|omega
   refine g.freeze 4 1 a a a ?_;exact g.cp bd [] a E a a a fI)
def ru(a:Int):Bool:=decide (1<=a/\a<=2)
def TM(k):Y r 45 [S k] [] (bh (ru k)) []:=by
 refine Y.K func45 rfl λb=>?_;unfold ru;by_cases u:k=1
 .refine a6 [(5,f)] a gV (g.aw a ?_);simp[u]
 refine a6 [(5,l)] a gV (g.aw a ?_);simp only[U,a9];rw[o5];simp only[hg,bA];omega
abbrev Bn:bL:=df c8 (λa=>bh (ru a)) λ_=>[]
def Mw:bM r 45 Bn:=.ba λa _=>TM a
def JM:bv:=⟨1,8,l,TypeDesc.map 3 4,[.val (.map n)],[]⟩
def Yl:dP V 124 JM:=⟨underlying124,rfl,⟨Tryz.t124,_,hy type124,rfl,rfl,rfl,rfl,⟨#[],rfl⟩,rfl⟩,λb=>absurd a b⟩
def da:bn V ((124,JM)::eR):=bn.cons Yl bd
abbrev sV(a:Z):z:=cM a
abbrev je(a:Z)(b:m Int):an:=.J (i7 a b)
def Ik(s)(e d):Y r 73 [sV s,aA.S d] [je s e] (.Q []) [je s (e++d)]:=by
 refine Y.K func73 rfl λi=>?_;have o:=i.S 1 a;refine g.aT b6 da a8.nil [] 100 a v (g.aL 1 (λb=>b<=c d) (λb:Nat=>[(0,sV s),(6,aA.S d),(7,S (c d)),(8,S b)]) (λb=>[je s (e++d.take b)]) (λb=>c d-b) 0 a E a E a y ?_);intro b m;by_cases k:b<c d
 .have p:d.getD (b:Int).toNat aA.I=d.getD b 0:=dA;refine g.aT b6 da a8.nil [(9,f)] 100 a bV (g.aO (a0.jQ a underlying124 underlying3 (j:=0) a a a a) a a ?_);refine g.aT b6 da a8.nil [] 100 a bK (g.aA (b+1) a E ?_ k y);simp_all
 obtain rfl:b=c d:=y;rw[c9];refine g.aT b6 da a8.nil [(9,l)] 100 a E (g.aC ?_);exact bW.di [0] a E a a a h6
def Wg(b)(d)(k):Y r 76 [S k,ax (.O [.val b])] [je b d] (bh (!d.contains k)) [je b d]:=by refine Y.K func76 rfl λi=>?_;refine g.aT b6 da a8.nil [] 100 a v ?_;refine g.aO (a0.jO a underlying124 underlying3 (λe=>Tryz.zeroValue4 e) (j:=0) a a a) a a ?_;exact g.aT b6 da a8.nil [] 100 a v (g.aS [0] a E h6)
def Vf(b)(k):Y r 78 [fA b,ax (.O [.int .i64 k])] [] (bh (b.1==k)) []:=by refine Y.K func78 rfl λd=>?_;exact aZ a v (g.aw a)
def Ck(o)(b:c o.2<=4000000)(d:c (d_ o.2)<=4000000):Y r 75 [iM o] [] (aA.S (fW o)) []:=by refine Y.K func75 rfl λe=>?_;refine aZ a v ?_;refine g.aF (W6 o b d) [] a ?_;exact aZ a v (g.aw a)
def oW(g:Z)(i:Nat)(b:Array MapEntry)(e:Nat):Z->(Nat->Option Obj)->Prop:=λj a=>j=g/\∀d,a d=if d=i then h (.map b e)else n
def iR(a:MapEntry):Int:=match a.key with|.int _ b=>b|_=>0
structure oX(I:Z)(d:m Int)(a':Nat)(T:Array MapEntry)(s:Nat):Prop where
 b8:I=.map (h a')
 bz:MapKept.Stamped T s
 cv:∀ai∈T.toList,ai.key=.int .i64 (iR ai)/\a7 .i64 (iR ai)/\ai.val=.bool f
 mem:∀k,k∈d↔k∈T.toList.map iR
def i7.j9{I}{d}(t:i7 I d aa k8):∃b:{b:Nat×Array MapEntry×Nat // oX I d b.1 b.2.1 b.2.2},oW I b.1.1 b.1.2.1 b.1.2.2 aa k8:=by
 obtain⟨k,x,g,q,m,w,u,v,p⟩:=t;have j:∀a∈g.toList,a.key=.int .i64 (iR a)/\a7 .i64 (iR a)/\a.val=.bool f:=λa e=>by
  obtain⟨o,k1,r,s⟩:=v a e;have:iR a=o:=by simp[iR,k1]
  rw[this];exact⟨k1,s,r⟩
 refine⟨⟨(x,g,q),m,u,j,λo=>?_⟩,k,w⟩;rw[p,k4];constructor
 .rintro⟨a,e,i⟩;exact⟨a,e,by simp[iR,i]⟩
 rintro⟨a,e,rfl⟩;exact⟨a,e,(j a e).1⟩
def oX.cO{I}{d}{a'}{T}{s}(e:oX I d a' T s)(g:oW I a' T s aa k8):i7 I d aa k8:=by
 refine⟨g.1,a',T,s,e.b8,g.2,e.bz,λb a=>⟨_,(e.cv b a).1,(e.cv b a).2.2,(e.cv b a).2.1⟩,λj=>?_⟩;rw[e.mem,k4];constructor
 .rintro⟨b,a,rfl⟩;exact⟨b,a,(e.cv b a).1⟩
 rintro⟨b,a,i⟩;exact⟨b,a,by simp[iR,i]⟩
def un(a:Array MapEntry)(pre:m Int)(b:Array Nat):Prop:=pre.Nodup/\(∀e∈pre,e∈a.toList.map iR)/\∀d∈a.toList,d.born∈b↔iR d∈pre
section
variable {I:Z}{d:m Int}{a' s:Nat}{T:Array MapEntry}(bc:oX I d a' T s)
include bc
def oX.ax:(T.toList.map iR).Nodup:=by
 have b:T.toList.map (·.key)=(T.toList.map iR).map (Value.int .i64):=by rw[List.map_map];exact wS λa d=>(bc.cv a d).1
 have:=bc.bz.2.2;rw[b]at this;rw[List.Nodup,wX]at this;exact this.imp λb a=>b (eK (Value.int .i64) a)
def oX.step{pre}{dw}(j:un T pre dw){b}(g:b∈T.toList)(k:b.born∉dw):un T (pre++[iR b]) (dw.push b.born)/\iR b∉pre:=by
 have m:iR b∉pre:=λo=>k ((j.2.2 b g).2 o);refine⟨⟨by grind[un],λp e=>?_,λi a=>?_⟩,m⟩
 .rcases gl.1 e with e|e
  .exact j.2.1 p e
  rw[gY.1 e];exact List.mem_map_of_mem g
 simp only[Array.mem_push,gl,gY,j.2.2 i a];refine or_congr_right ⟨λd=>?_,λd=>?_⟩
 .rw[Do bc.bz.2.1 a g d]
 rw[Do bc.ax a g d]
def oX.over{pre}{dw}(g:un T pre dw)(j:∀e∈T.toList,e.born∈dw):pre.Nodup/\∀b,b∈pre↔b∈d:=by refine⟨g.1,λb=>⟨λa=>(bc.mem b).2 (g.2.1 b a),λa=>?_⟩⟩;obtain⟨e,i,rfl⟩:=k4.1 ((bc.mem b).1 a);exact(g.2.2 e i).1 (j e i)
end
def yb{b}:∀a,a<1->(0::b)[a]?=h a:=λa d=>by simp_all
abbrev xw(a:Z):N:=.fn (.func 175) [] [.O [.val a]]
def Vo(I):Y r 138 [sV I] [] (ax (xw I)) []:=by refine Y.K func138 rfl λb=>?_;refine g.aT b6 da a8.nil [(1000001,f)] 100 a v ?_;refine g.freeze 1 0 a a a ?_;exact g.aT b6 da a8.nil [] 100 a v (g.aw a)
set_option maxRecDepth 20000 in
def Vp{ad:Type}{I}{d}{a'}{T}{s}(o:oX I d a' T s){i}{e}{w}(u x:ad->an)(y:m Int->ad->Prop)(t)(R:y [] t)(aE:∀k,u k≠.bn/\x k≠.bn)(j:∀pre b k M,b∉pre->pre.Nodup->(∀X∈pre++[b],X∈d)->y pre k->iC (ι:={p:ad // y (pre++[b]) p}) r 3 [S b] [.J (oW I a' T s),u k,x k,.loop i e w,.J M] f (λp=>[.J (oW I a' T s),u p.1,x p.1,.loop i e w,.J M])):
  bk (ι:={C:ad×m Int×Array Nat // (C.2.1.Nodup/\∀K,K∈C.2.1↔K∈d)/\y C.2.1 C.1}) r 175 [.n (.aq (.aR 3)),ax (.O [.val I])] [.J (oW I a' T s),u t,x t,.loop i e w] (λ_=>.Q []) (λA=>[.J (oW I a' T s),u A.1.1,x A.1.1,.loop i e w,.J (kZ a' s A.1.2.2)]):=by
 obtain rfl:=o.b8;have F:uk (oW (.map (h a')) a' T s) a' T s:=λY U V=>by rw[V.2];simp
 refine bk.bP func175 rfl rfl rfl (g.aW ?_);refine g.aT b6 da a8.nil [] 100 a v (g.range (qI:=0) (a':=a') a a a a underlying124 (bY.j' a) a F ?_);refine g.aT b6 da a8.nil [] 100 a v ?_;show b0 r _ (.loop _) _ _ _;refine b0.loop (bq:=ad×m Int×Array Nat) (λb=>un T b.2.1 b.2.2/\y b.2.1 b.1) (λ_=>[(0,.n (.aq (.aR 3))),(5,.n (.aq (.aR 4)))]) (λb=>[.J (oW (.map (h a')) a' T s),u b.1,x b.1,.loop i e w,.J (kZ a' s b.2.2)]) (λb=>c T.toList-c b.2.1) (t,[],#[]) ⟨⟨List.nodup_nil,by simp,by simp⟩,R⟩ (eD a E) a ?_;rintro⟨k,pre,dw⟩ ⟨J,O⟩;refine g.aW ?_;refine g.aT b6 da a8.nil [] 100 a v (g.next (qI:=0) (kj:=4) (a':=a') (s:=s) (dw:=dw) (T:=T) a a a a a a a a F o.bz (λai q=>⟨by rw[(o.cv ai q).1];rfl,by rw[(o.cv ai q).2.2];rfl⟩) λA=>?_);cases A with
 |over D=>
  refine g.aT b6 da a8.nil [(7,l)] 100 a E (g.fH a a ?_);exact⟨⟨(k,pre,dw),o.over J D,O⟩,.inr a,a,qL (bX:=.J _) E (qL (aE k).1 (qL (aE k).2 a)),[],.Q [],[],a,a,a,v⟩
 |aq ai q H=>
  refine g.aT b6 da a8.nil [(7,f)] 100 a E ?_;obtain⟨k1,N,z⟩:=o.cv ai q;obtain⟨B,G⟩:=o.step J q H;refine g.entry (qI:=0) (kj:=4) (a':=a') (s:=s) (dw:=dw) (T:=T) (ai:=ai) (X:=.Q [.aq (.c (.int .i64 (iR ai))),.aq .any]) a a a a a a a F o.bz q (λW=>⟨[ai.key,ai.val],a,?_,by rw[z];rfl,v⟩) ?_
  .rw[k1];exact Rd.int N
  refine g.aT b6 da a8.nil [] 100 a v (g.yield (j pre (iR ai) k _ G J.1 (λX Q=>(o.mem X).2 (B.2.1 X Q)) O) a a a a a a λp=>?_);refine g.aT b6 da a8.nil [(13,l)] 100 a E ⟨(p.1,pre++[iR ai],dw.push ai.born),⟨B,p.2⟩,?_,eD a E,a⟩;have:=yG _ _ B.1 B.2.1;simp at this⊢;omega
abbrev Ak(d:m Int):Type:={b:m Int // b.Nodup/\∀a,a∈b↔a∈d}
set_option maxRecDepth 20000 in
def Tv(I)(d)(K:c d<=4000000):
  bk (ι:=Ak d) r 212 [ax (.S f 0 0 λ_=>[]),ax (xw I)] [je I d] (λb=>cz 1 (.S (c b.1) 1 0 (c b.1))) (λb=>[je I d,jd (c b.1) b.1]):=by
 refine bk.e5 func212 rfl rfl rfl λJ=>?_;refine db.seq (b0.bA (g.aW ?_));refine aZ a v (db.seq (db.seq (b0.bA (g.aW ?_))));refine g.gy 0 (λb:{b:Nat×Array MapEntry×Nat // oX I d b.1 b.2.1 b.2.2}=>oW I b.1.1 b.1.2.1 b.1.2.2) a (λB e i=>i7.j9 i) ?_;rintro⟨⟨N,x,E⟩,b⟩;refine g.en 1 0 3 1 (aA.fn []) a a ?_;refine aZ a v (db.block ?_);refine db.rangeFunc (o':=e2 [.O [.val I]]) (bY.callee a) (Vp (ad:=m Int) b (λq=>.cells 28 [.R 2 (.S (c q) 1 0 (c q))]) (λq=>jd (c q) q) (λpre q=>q=pre) [] a (λq=>⟨by simp,by simp⟩) ?_) (λp=>⟨a,by simp⟩) λp=>⟨.normal,a,?_⟩
 .rintro pre o q t k A s rfl;have F:c q+1<=4000000:=by have:=yG (q++[o]) d M s;simp at this;omega
  refine iC.intro (w:=n) a a a a (g.aW ?_);refine aZ a v ⟨a,a,g.aW ?_⟩;refine aZ a (by simp[a7,show ec.bytes=8 from a];omega) ?_;have j:=aA.a0 q o;refine⟨a,a,⟨q++[o],a⟩,jP a ?_⟩;simp only[U.Y,U,dn,gW,ba,a9];and_intros<;>first|exact j|rfl|exact bt.same
 show db r _ _ _ _ _;obtain⟨⟨q,pre,z⟩,u,y⟩:=p;obtain rfl:q=pre:=y;refine b0.bA (g.aW ?_);refine g.gy (ι:=Unit) 0 (λ_=>i7 I d) a (λB e i=>⟨(),b.cO i⟩) λ_=>?_;refine aZ a v (g.bQ (λj C D b=>⟨⟨q,u⟩,b⟩) (g.aS [0,2] a ?_ yb));simp
def TY(I)(d)(e:c d<=4000000):
  bk (ι:=Ak d) r 174 [ax (xw I)] [je I d] (λb=>cz 1 (.S (c b.1) 1 0 (c b.1))) (λb=>[je I d,jd (c b.1) b.1]):=by refine bk.cr func174 rfl rfl rfl λi=>?_;refine aZ a v (g.bV (Tv I d e) [0] a a a a E a a a bl a bl a λb=>?_);refine aZ a v (g.bJ b (g.aS [0,1] a ?_ yb));simp
def ab8{d aN}(k:aN.Pairwise (· < ·))(o:∀g,g∈aN↔g∈d)(a:Ak d):jX a.1=aN:=by
 have i:(jX a.1).Pairwise λb e=>b<=e:=(List.pairwise_mergeSort (λb e p i j=>by grind) (λb e=>by grind) a.1).imp λm=>by grind
 have j:(jX a.1).Nodup:=(zd _).nodup_iff.2 a.2.1;refine AT ?_ k λg=>by rw[(zd _).mem_iff,a.2.2,o]
 exact(i.and j).imp λm=>by omega
def Xc(I)(b aN:m Int)(p:c b<=4000000)(q:aN.Pairwise (· < ·))(o:∀e,e∈aN↔e∈b):
  Y r 137 [ax (xw I)] [je I b] (cz 1 (.S (c aN) 1 0 (c aN))) [je I b,jd (c aN) aN]:=by
 refine Y.K func137 rfl λt=>?_;refine aZ a v (g.a_ (TY I b p) [0] a bl λd=>?_);have k:=ab8 q o d;have u:=yG d.1 b d.2.1 λe s=>(d.2.2 e).1 s;have j:=Co (r:=r) d.1 y;have i:c d.1=c aN:=by rw[<-k,qT]
 rw[k,i]at j;rw[i];refine aZ a v (g.aF j [1] a (aZ a v (g.aS [0,1] a ?_ yb)));simp
def VQ(I)(d aN)(i:c d<=4000000)(e:aN.Pairwise (· < ·))(j:∀b,b∈aN↔b∈d):
  Y r 90 [sV I] [je I d] (aA.S aN) [je I d]:=by
 have k:Y r 90 [sV I] [je I d] (cz 1 (.S (c aN) 1 0 (c aN))) ([je I d]++[jd (c aN) aN]):=by refine Y.K func90 rfl λm=>?_;refine g.aT b6 da a8.nil [] 100 a v (g.aF (Vo I) [] a (g.aT b6 da a8.nil [] 100 a v (g.aF (Xc I d aN i e j) [0] a (g.aT b6 da a8.nil [] 100 a v (g.aS [0,1] a ?_ yb)))));simp
 exact Y.bM k a E a (bC _)
abbrev jF(b:Nat)(a:m Int):an:=.h 3 1 b (aA.fn a)
end
section
variable {r:aj V}
abbrev RA:={a:m Int // c a<=5}
def Vl(A)(e:Nat->Int)(w:Bytes e)(i:Nat)(q:i<=500000)(k:A<=1048576):
  bk (ι:=RA) r 37 [aG 0 0] [ef A e i] (λx=>aA.S x.1) (λ_=>[ef A e (i+5:Nat)]):=by
 refine bk.cr func37 rfl rfl rfl λF=>?_;refine a6 [(1000002,f)] a v (g.bK 3 3 1 a a ?_);refine aZ a v (g.aL 2 (λb:Nat×m Int=>1<=b.1/\b.1<=6/\c b.2+1<=b.1) (λb=>[(0,aG 0 0),(3,.n (.aq (.r 1 1 (c b.2) (aA.fn b.2)))),(4,S b.1)]) (λb=>[ef A e (i+(b.1-1):Nat),.r 3 1 (c b.2) (aA.fn b.2)]) (λb=>6-b.1) (1,[]) a E a E a ⟨by decide,by decide,by decide⟩ ?_);rintro⟨d,j⟩ ⟨t,p,u⟩;simp only at t p u;by_cases D:d<=5
 .refine a6 [(7,f)] a bw (g.a_ (hL A e w (i+(d-1)) 2 y k y) [0] a bl ?_);rintro⟨z,B,C⟩;by_cases o:z=0
  .have s:=aA.a0 j (d:Int);refine a6 [(12,f)] a ?_ (g.aA (d+1,j++[(d:Int)]) a ?_ ?_ ⟨by omega,by omega,by grind⟩ y)
   .simp only[U,o,a7,show ec.bytes=8 from a,fZ,ba,a9];exact fr
   .exact N8
   exact N8
  refine a6 [(12,l)] a bK (g.aA (d+1,j) a E ?_ ⟨by omega,by omega,by exact bw⟩ y);exact bw
 obtain rfl:d=6:=y;refine a6 [(7,l)] a E (g.aC ?_);refine aZ a v (g.bJ ⟨j,by omega⟩ (g.aS [0] a ?_ nj));simp
def zy:m bE:=[[122,122],[98,46],[104,101,108,108,111,46,46,46]]
def aez:bt 3 (λa=>([[.V [122,122]],[.V [98,46]],[.V [104,101,108,108,111,46,46,46]]]:m (m N)).getD a []) (bR.fn zy):=by intro a b;have:a=0∨a=1∨a=2:=y;rcases this with rfl|rfl|rfl<;>rfl
set_option maxRecDepth 20000 in
def VD(A)(b:Nat->Int)(i:Bytes b)(d:Nat)(o:d<=500000)(e:A<=1048576):
  bk (ι:=dL) r 36 [aG 0 0] [ef A b d] (λp=>ei p) (λ_=>[ef A b (d+4:Nat)]):=by
 refine bk.bD bd func36 rfl rfl rfl λs=>?_;refine aZ a v (g.a_ (hL A b i d 5 y e y) [0] a bl ?_);rintro⟨j,_⟩;refine aZ a v (g.a_ (hL A b i (d+1) 5 y e y) [0] a bl ?_);rintro⟨m,_⟩;refine aZ a v (g.a_ (hL A b i (d+1+1) 3 y e y) [0] a bl ?_);rintro⟨k,_⟩;refine aZ a v (g.bV (Wi A b i (d+1+1+1) y e zy ca).tocD [0] a a a a ?_ a a a bl a bl a ?_)
 .simp only[U.Y,U,ba,a9];exact⟨a,aez⟩
 rintro -;generalize zy.getD (qO A b (d+1+1+1) (c zy)).toNat []=q;refine aZ a v (g.bh (j,m,k,q) [0] ?_ g4);simp
end
structure oY(Q:dT):Prop extends nY Q.1 where
 fM:c Q.2.1<=4000000
 fK:c Q.2.2<=4000000
def F'{d}(a:e<c d):c (d_ (d.getD e (0,[])).2)<=c (hh d):=by have:=F_ d (e+1);grind[AI]
def ac0(i)(a):ha i a=(hV i a.1&&(aC (c a.1.2.1)).all (λb=>!(fW (a.1.2.1.getD b (0,[]))).any λd=>!a.2.1.contains d)&&(aC (c a.2.2)).all (nz a.1.1 a.2.2)):=by rw[ha,aas];cases hV i a.1<;>simp
def Xr(i)(j)(s:oY j):Y (aj.aJ V) 44 [S i,fQ j] [] (bh (ha i j)) []:=by
 refine Y.K func44 rfl λT=>?_;have m:a8 (aj.aJ V) [(72,xB)]:=.cons Eu .nil;have X:=a2.E j.1.1;have aa:=bj.E j.1.2.1;have cL:=a1.E j.1.2.2;have a':=s.tonY;rw[ac0];cases bU:hV i j.1
 .exact g.aT b6 da m [(14,f)] 100 a Ra (g.aw a)
 refine g.aT b6 da m [(14,l)] 100 a Ra ?_;rw[fp];refine g.hZ a a a λq=>?_;refine g.aT b6 da m [] 100 a v (g.aF (Ik q [] j.2.1) [1] a ?_);rw[p8];refine g.aT b6 da m [(1000005,f)] 100 a v (g.freeze 5 2 a a a ?_);refine g.aT b6 da m [] 100 a v (g.aL 3 (λe=>e<=c j.1.2.1/\∀o,o<e->(!(fW (j.1.2.1.getD o (0,[]))).any λk=>!j.2.1.contains k)=f) (λe:Nat=>[(0,S i),(3,aG 0 0),(5,ax (.O [.val q])),(22,bj.S j.1.2.1),(23,S (c j.1.2.1)),(24,S e)]) (λ_=>[gh j,je q j.2.1,.x]) (λe=>c j.1.2.1-e) 0 a E a E a ⟨by omega,by omega⟩ ?_);have H:=s.fa;rintro e ⟨w,r⟩;by_cases u:e<c j.1.2.1
 .have b:j.1.2.1.getD (e:Int).toNat bj.I=j.1.2.1.getD e (0,[]):=M;have B:=s.dX _ (om (I:=(0,[])) u);have O:=F' u;have J:=s.ey;have L:=kE (R:=λo=>!(fW (j.1.2.1.getD o (0,[]))).any λk=>!j.2.1.contains k) u;have A:=iG (R:=λo=>!(fW (j.1.2.1.getD o (0,[]))).any λk=>!j.2.1.contains k) (e:=e);generalize j.1.2.1.getD e (0,[])=p at *;refine g.aT b6 da m [(25,f)] 100 a bV ?_;rw[b];refine g.aF (Ck p B.1 y) [] a (g.aT b6 da m [] 100 a v (g.aF (UG (fW p) 76 [.val q] (i7 q j.2.1) (λk=>!j.2.1.contains k) λk _=>Wg q j.2.1 k) [1] a ?_));cases G:(fW p).any λk=>!j.2.1.contains k with
  |true=>
   refine g.aT b6 da m [] 100 a v (g.aX (bW.zero a ?_));exact bK
  |false=>
   refine g.aT b6 da m [] 100 a ?_ (g.aA (e+1) a E E ⟨u,A r M⟩ y);exact bK
 obtain rfl:e=c j.1.2.1:=y;rw[f'.2 r,fp];refine g.aT b6 da m [(25,l)] 100 a E (g.aC ?_);refine g.aT b6 da m [] 100 a v ?_;have D:=s.fK;refine g.aL 3 (λe=>e<=c j.2.2/\∀o,o<e->nz j.1.1 j.2.2 o=f) (λe:Nat=>[(0,S i),(3,aG 0 0),(34,aA.S j.2.2),(35,S (c j.2.2)),(36,S e)]) (λ_=>[gh j,je q j.2.1,.x]) (λe=>c j.2.2-e) 0 a E a E a ⟨by omega,by omega⟩ ?_;rintro e ⟨w,r⟩;by_cases u:e<c j.2.2
 .have b:j.2.2.getD (e:Int).toNat aA.I=j.2.2.getD e 0:=M;have C:j.2.2.getD (e-1) aA.I=j.2.2.getD (e-1) 0:=rfl;have z:nz j.1.1 j.2.2 e=((j.1.1.any λR=>R.1==j.2.2.getD e 0)&&ka (λp=>p) 0 j.2.2 e):=rfl;have F:=qb (ae:=λp:Int=>p) (I:=0) (d:=j.2.2) (e:=e);generalize j.2.2.getD e 0=k at *;generalize j.2.2.getD (e-1) 0=x at *;have hJ:a8 (aj.aJ V) [(77,ev [a2.S j.1.1,ax (.fn (.func 78) [] [.O [.int .i64 k]])] (bh (j.1.1.any λR=>R.1==k)))]:=.cons (eI (UH j.1.1 78 [.int .i64 k] (λR=>R.1==k) λR _=>Vf R k)) .nil;refine g.aT b6 da m [(37,f),(1000014,f)] 100 a bV ?_;rw[b];refine g.freeze 9 3 a a a ?_;have fin:j.1.1.any (λR=>R.1==k)=f->ka (λp=>p) 0 j.2.2 e=f->nz j.1.1 j.2.2 e=f:=λG K=>by grind
  by_cases N:e=0
  .subst N;cases t:j.1.1.any (λR=>R.1==k)with
   |true=>
    refine g.aT b6 da hJ [(43,l),(60,l)] 100 a ?_ (g.aA 1 a E E ⟨u,iG r (fin t a)⟩ y);simp[a7,t,cZ.S]
   |false=>
    refine g.aT b6 da hJ [(43,l),(60,f)] 100 a bK (g.aX (bW.zero a ?_));exact j2
  by_cases Q:x<k
  rotate_left
  .refine g.aT b6 da hJ [(43,f),(51,f),(60,f)] 100 a ?_ (g.aX (bW.zero a ?_))
   .simp[-al,C,a7];omega
   exact j2
  cases t:j.1.1.any (λR=>R.1==k)with
  |true=>
   refine g.aT b6 da hJ [(43,f),(51,l),(60,l)] 100 a ?_ (g.aA (e+1) a E E ⟨u,iG r (fin t M)⟩ y);exact Oi
  |false=>
   refine g.aT b6 da hJ [(43,f),(51,l),(60,f)] 100 a Oi (g.aX (bW.zero a ?_));exact j2
 obtain rfl:e=c j.2.2:=y;rw[f'.2 r];refine g.aT b6 da m [(37,l)] 100 a E (g.aC ?_);exact g.aT b6 da m [] 100 a v (g.aw a)
abbrev xC:bL:=en c8 (An Cw) (λb a=>bh (ha b a)) λ_ a=>[oY a]
def Ev:bM (aj.aJ V) 44 xC:=.bm λb d a=>Xr b d a
section
variable {r:aj V}
inductive Rz (ι:Type)
 |cx
 |im (bc:ι)
 |iZ (bc:ι)
 |done (bc:ι) (aa:Z)
abbrev DQ{k1}(b:Nat)(a:Nat->Int)(e:Int)(g:Bool):Rz (FN k1)->an
 |.cx=>match g with
  |false=>ef b a e
  |true=>ef b a (e+1)
 |.im d|.iZ d|.done d _=>ef b a d.1.2
section
variable {j:Nat->Int}{bz:Int}{k1:Nat}{Q:dT}{R:FN k1->Bool}
end
end
abbrev aex(a:eT):an:=.cells 35 (lx a)
def aeC(a):fY a=(ha a.1 a.2.1&&decide (c a.2.2.2.1=2)&&decide (c a.2.2.2.2=2)&&(aC 2).all (qY a)):=by unfold fY;cases ha a.1 a.2.1<;>cases decide (c a.2.2.2.1=2)<;>cases decide (c a.2.2.2.2=2)<;>simp
def I_(b)(A:oY b.2.1):Y (aj.aJ V) 19 [fq b] [] (bh (fY b)) []:=by
 refine Y.K func19 rfl λD=>?_;have j:a8 (aj.aJ V) [(44,xC)]:=.cons Ev .nil;have C:=a2.E b.2.1.1.1;have k:=bj.E b.2.1.1.2.1;have i:=a1.E b.2.1.1.2.2;have d:=aA.E b.2.1.2.1;have ae:=aA.E b.2.1.2.2;rw[aeC];cases bU:ha b.1 b.2.1
 .exact g.aT b6 da j [(11,f),(17,f),(22,f)] 100 a (by simp[bU,C,k,i,d,ae,a2.U,bj.U,a1.U,aA.U,A]) (g.aw a)
 by_cases q:c b.2.2.2.1=2
 rotate_left
 .exact g.aT b6 da j [(11,l),(17,f),(22,f)] 100 a Ft (g.aw a (by simp[lE q]))
 by_cases p:c b.2.2.2.2=2
 rotate_left
 .exact g.aT b6 da j [(11,l),(17,l),(22,f)] 100 a Ft (g.aw a (by simp[lE p]))
 refine g.aT b6 da j [(11,l),(17,l),(22,l)] 100 a Ft ?_;rw[fm q,fm p,fp,fp,fp];refine g.aL 1 (λe=>e<=2/\∀o,o<e->qY b o=f) (λe:Nat=>[(1,aG 0 0),(24,a1.S b.2.2.2.1),(25,S (c b.2.2.2.1)),(26,S e)]) (λ_=>[aex b]) (λe=>2-e) 0 a E a E a ⟨by omega,by omega⟩ ?_;rintro e ⟨z,m⟩;by_cases u:e<2
 .have I:b.2.2.2.1.getD e a1.I=ov b e:=rfl;have s:b.2.2.2.2.getD e aA.I=oh b e:=rfl;have B:qY b e=(decide (0<=(ov b e).1/\(ov b e).1<=9)&&decide (0<=(ov b e).2)&&decide (0<=oh b e/\oh b e<=2)):=rfl;by_cases r:0<=(ov b e).1
  rotate_left
  .refine g.aT b6 da j [(27,f),(34,f),(39,f),(44,f),(52,f),(59,f)] 100 a Fp (g.aX (bW.zero a ?_));exact j2
  by_cases t:(ov b e).1<=9
  rotate_left
  .refine g.aT b6 da j [(27,f),(34,l),(39,f),(44,f),(52,f),(59,f)] 100 a Fp (g.aX (bW.zero a ?_));exact j2
  by_cases w:0<=(ov b e).2
  rotate_left
  .refine g.aT b6 da j [(27,f),(34,l),(39,l),(44,f),(52,f),(59,f)] 100 a Fp (g.aX (bW.zero a ?_));exact j2
  by_cases x:0<=oh b e
  rotate_left
  .refine g.aT b6 da j [(27,f),(34,l),(39,l),(44,l),(52,f),(59,f)] 100 a QS (g.aX (bW.zero a ?_));exact j2
  by_cases F:oh b e<=2
  rotate_left
  .refine g.aT b6 da j [(27,f),(34,l),(39,l),(44,l),(52,l),(59,f)] 100 a QS (g.aX (bW.zero a ?_));exact j2
  refine g.aT b6 da j [(27,f),(34,l),(39,l),(44,l),(52,l),(59,l)] 100 a ?_ (g.aA (e+1) a E E ⟨u,iG m M⟩ y);simp[-al,I,s,a7];omega
 obtain rfl:e=2:=y;rw[f'.2 m];refine g.aT b6 da j [(27,l)] 100 a bV (g.aC ?_);exact g.aT b6 da j [] 100 a v (g.aw a)
section
variable {r:aj V}[r.b']
abbrev gz:=Int×Int×m c'×dL×m Int
abbrev B8(a:gz):m O:=[.c (.int .i64 a.1),.c (.int .i64 a.2.1),cI bD a.2.2.1,.c (.int .i64 a.2.2.2.1.1),.c (.int .i64 a.2.2.2.1.2.1),.c (.int .i64 a.2.2.2.1.2.2.1),.c (.V a.2.2.2.1.2.2.2),cI aA a.2.2.2.2]
abbrev k'(a:gz):z:=.n (.agg (B8 a))
abbrev aeW:m O:=[.c (.int .i64 0),.c (.int .i64 0),cB,.c (.int .i64 0),.c (.int .i64 0),.c (.int .i64 0),.c (.V []),cB]
abbrev aeX:an:=.cells 38 aeW
abbrev kU:dL:=(0,0,0,[])
structure z'(i:Nat)(bc:gz×Nat):Prop where
 dZ:c bc.1.2.2.1<=7
 kn:c bc.1.2.2.2.2<=5
 hl:i<=bc.2
 gk:bc.2<=i+500
set_option maxRecDepth 20000 in
def IA(A)(b:Nat->Int)(j:Bytes b)(i)(w:i<=40000)(e:A<=1048576):
  bk (ι:={m:gz×Nat // z' i m}) r 16 [aG 0 0] [ef A b i] (λm=>k' m.1.1) (λm=>[ef A b m.1.2]):=by
 refine bk.bD bd func16 rfl rfl rfl λS=>?_;refine aZ a v (g.a_ (hL A b j i 9 y e y) [0] a bl ?_);rintro⟨d,D,F⟩;by_cases T:d<=3
 .apply g.cg [(0,aG 0 0),(2,aG 1 0)] [ef A b (i+1:Nat),aeX]
  .intro du;have:d=0∨d=1∨d=2∨d=3:=y;rcases this with rfl|rfl|rfl|rfl
   .exact a6 [(6,f),(1000006,f)] a E kx
   .exact a6 [(6,l),(7,f),(1000006,f)] a E kx
   .exact a6 [(6,l),(7,l),(8,f),(1000006,f)] a E kx
   exact a6 [(6,l),(7,l),(8,l),(9,f),(1000006,f)] a E kx
  refine aZ a v (g.a_ (hL A b j (i+1) 2 y e y) [0] a bl ?_);rintro⟨k,o,p⟩;refine aZ a t7 (g.a_ (Xz A b j (i+1+1) y e) [0] a bl ?_);rintro⟨C,t,K,k1,u,J,z,R⟩;simp only;refine aZ a v (g.bh ⟨((1,1+k,C,kU,[]),k1),J,by simp,by grind,by grind⟩ [0] ?_ g4);simp
 by_cases M:d=4
 .subst M;refine a6 [(6,l),(7,l),(8,l),(9,l),(17,f)] a E (g.a_ (hL A b j (i+1) 4 y e y) [0] a bl ?_);rintro⟨k,o,p⟩;refine aZ a v (g.bh ⟨((2,k,[],kU,[]),i+1+1),by simp,by simp,by grind,by grind⟩ [0] ?_ g4);simp
 by_cases Q:d=5
 .subst Q;refine a6 [(6,l),(7,l),(8,l),(9,l),(17,l),(22,f)] a E (g.a_ (hL A b j (i+1) 2 y e y) [0] a bl ?_);rintro⟨k,o,p⟩;by_cases s:k=0
  .refine a6 [(25,f)] a (by simp[s]) (g.bh ⟨((3,0,[],kU,[]),i+1+1),by simp,by simp,by grind,by grind⟩ [0] ?_ g4);simp
  refine a6 [(25,l)] a (by simp[s]) (g.a_ (VD A b j (i+1+1) y e) [0] a bl ?_);intro x;refine aZ a v (g.bh ⟨((3,0,[],x,[]),i+1+1+4),by simp,by simp,by grind,by grind⟩ [0] ?_ g4);simp
 by_cases I:d=6
 .subst I;refine a6 [(6,l),(7,l),(8,l),(9,l),(17,l),(22,l),(31,f)] a E (g.a_ (Vl A b j (i+1) y e) [0] a bl ?_);rintro⟨cY,B⟩;refine aZ a v (g.bh ⟨((4,0,[],kU,cY),i+1+5),by simp,B,by grind,by grind⟩ [0] ?_ g4);simp
 by_cases O:d=7
 .subst O;refine a6 [(6,l),(7,l),(8,l),(9,l),(17,l),(22,l),(31,l),(36,f)] a E (g.bh ⟨((5,0,[],kU,[]),i+1),by simp,by simp,by grind,by grind⟩ [0] ?_ g4);simp
 obtain rfl:d=8:=y;refine a6 [(6,l),(7,l),(8,l),(9,l),(17,l),(22,l),(31,l),(36,l)] a E (g.a_ (hL A b j (i+1) 8 y e y) [0] a bl ?_);rintro⟨k,o,p⟩;refine aZ a v (g.a_ (hL A b j (i+1+1) 4 y e y) [0] a bl ?_);rintro⟨q,N,nH⟩;refine aZ a v (g.bh ⟨((k,q,[],kU,[]),i+1+1+1),by simp,by simp,by grind,by grind⟩ [0] ?_ g4);simp
abbrev gL(d:Int)(e:dT)(a:dL)(b:Nat):m O:=.c (.int .i64 d)::(v6 e++[.c (.int .i64 a.1),.c (.int .i64 a.2.1),.c (.int .i64 a.2.2.1),.c (.V a.2.2.2),.R b (.S 2 2 0 2),.R (b+1) (.S 2 1 0 2)])
abbrev lk(cY:m (Int×Int))(a:m Int):m an:=[.h 46 2 2 (a1.fn cY),.h 3 1 2 (aA.fn a)]
abbrev C6:m (Int×Int):=[(0,0),(0,0)]
abbrev Cy:m Int:=[0,0]
omit [r.b']in
def XQ(i)(bU:cK i=f):Y r 33 [S i] [] (.Q [.agg (gL i kV kU 0),.aq (.c (.bool f))]) (lk C6 Cy):=by
 refine Y.bl bd func33 rfl rfl rfl λk=>?_;have b:a8 r [(59,sP)]:=.cons v9 .nil;refine a_ b [(7,l),(1000003,f)] a j3 (g.region ?_);refine qQ b [] 3 a v (g.gR bd a a a a a a ?_);refine g.gR bd a a a a a a ?_;refine b_ b a v (g.bf [.cells 35 (gL i kV kU 1),.h 46 2 2 (a1.fn C6),.h 3 1 2 (aA.fn Cy),.cells 35 (gL i kV kU 1)] a ?_ ?_)
 .simp only[U.Y,U,ba,a9];and_intros<;>first|rfl|exact bt.nil|(intro j d;match j,d with|0,_=>rfl|1,_=>rfl)
 refine g.cq () [1,2] ?_ (λm e=>absurd e E);simp
def D'(d:Int)(b:cq)(a:Int)(e:m c'):cq×Bool:=
 if hV d b=f/\(1<=a/\a<=2)/\dV e=f then(if fJ d b e=f then b else hU d b a e,!fJ d b e)else(([],[],[]),l)
end
section
variable {r:aj V}
def ya:∀a,a<2->([0,1]:m Nat)[a]?=h a:=λa b=>by
 match a,b with
 |0,_=>rfl
 |1,_=>rfl
def hn(a:Int)(e:cq)(d:dL)(b:m (Int×Int)×m Int):m (Int×Int)×m Int:=
 if b.2.getD (a-1).toNat 0=0 then(b.1.set (a-1).toNat (mG (b.1.getD (a-1).toNat (0,0)) (mF e d).2.2).1,b.2.set (a-1).toNat (mG (b.1.getD (a-1).toNat (0,0)) (mF e d).2.2).2)else b
def tj{cg}{b}{d}{bc}(a:c bc.1=2)(e:c bc.2=2):(hn cg b d bc).1.length=2/\(hn cg b d bc).2.length=2:=by unfold hn;split<;>simp[a,e]
abbrev Nm:an:=.cells 46 [.c (.int .i64 0),.c (.int .i64 0)]
abbrev Dk(a:Int×Int):an:=.cells 46 [.c (.int .i64 a.1),.c (.int .i64 a.2)]
abbrev aeY:m O:=[.c (.int .i64 0),cB,cB,cB,cB,cB,.c (.int .i64 0),.c (.int .i64 0),.c (.int .i64 0),.c (.V []),cB,cB]
abbrev fO:an:=.cells 35 aeY
def H5(b:Int)(e:dT)(d:dL)(cY:m (Int×Int))(a:m Int)(g:Int×Int)(_ i j:Bool):m an:=
 match i,j with
 |false,_=>lk cY a++[.cells 35 (gL b e d 0),fO]
 |true,l=>lk cY a++[.cells 35 (gL b e d 0),fO,Nm]
 |true,f=>lk cY a++[.cells 35 (gL b e d 0),fO,Dk g]
abbrev aeO(j:dT)(g:dL)(a:Int)(i:Int×Int)(d:cq)(b:(Int×Int)×Int)(e:Nat):z:=
 [aG 2 10,cz 0 (.S 2 2 0 2),S a,S (a-1),cz 0 (.bu 2 2 (0+(a-1).toNat) 0),ql i,aG 2 1,aG 2 1,b1 j.1,aG 2 6,ei g,b1 d,a1.S d.2.2,pJ b,pJ b,ql b.1,S b.2,aG 4 0,.any,S b.2].getD e .any
set_option maxRecDepth 20000 in
def Ch(i)(e)(d)(b)(cY)(C)(w:oU e.1)(N:1<=b/\b<=2)(Q:c cY=2)(K:c C=2):
  Y r 40 [.n (.agg (gL i e d 0)),S b] (lk cY C) (.n (.agg (gL i e d 0))) (lk (hn b e.1 d (cY,C)).1 (hn b e.1 d (cY,C)).2):=by
 refine Y.bl bd func40 rfl rfl rfl λJ=>?_;have O:=(tL (r:=r) w d).ev.aN;have aE:=(tL (r:=r) w d).c8;unfold hn;generalize mF e.1 d=j at *;have M:(b-1).toNat<2:=y;have B:(0:Nat)+(b-1).toNat<2:=y;have E:cY.getD (b-1).toNat (0,0)=cY.getD (0+(b-1).toNat) a1.I:=q7;have R:(cY.getD (0+(b-1).toNat) a1.I)=(cY.getD (0+(b-1).toNat) a1.I):=rfl;rw[E];have F:=WU (r:=r) (cY.getD (0+(b-1).toNat) a1.I) j.2.2 O;generalize mG (cY.getD (0+(b-1).toNat) a1.I) j.2.2=m at *;have k:a8 r [(69,ev [b1 e.1,ei d] (b1 j)),(68,ev [ql (cY.getD (0+(b-1).toNat) a1.I),a1.S j.2.2] (pJ m))]:=.cons (eI aE) (.cons (eI F) .nil);have A:a7 .i64 (b-1):=nO;have cw:0<=b-1/\b-1<((2:Nat):Int):=y;have D:2=2/\0+(b-1).toNat<2:=⟨rfl,B⟩;refine bf k [(1000001,f)] a v ?_;refine g.cu b6 (aeO e d b (cY.getD (0+(b-1).toNat) a1.I) j m) (lR (H5 i e d cY C m.1) 19 17 18) a a a a
  ⟨.aE,
  .aE,
  .aE,
  .dt bd k (cw:=by exact A),
  .dt bd k (cw:=by exact cw),
  .dt bd k (cw:=by exact D),
  .aE,
  .aE,
  .aE,
  .aE,
  .aE,
  .dt bd k (cw:=by exact a),
  .aE,
  .dt bd k (cw:=by exact a),
  .aE,
  .aE,
  .aE,
  cp.eB a a a a a (λx=>by cases x<;>exact ee (bg:=[]) bd k (ao:=h _) a v),
  cp.eC a a a a a (λx=>by cases x<;>exact ee (bg:=[]) bd k (ao:=h _) a v),
  cp.eA a a a a (λs I=>by cases s<;>cases I<;>exact aV.y),v⟩ ?_
 intro z t;show g r _ _ _ _ _ (H5 i e d cY C m.1 (z 19) (z 17) (z 18));rw[t 19 ca,t 17 ca,t 18 ca];have u:C.getD (0+(b-1).toNat) aA.I=C.getD (b-1).toNat 0:=q7;by_cases q:C.getD (b-1).toNat 0=0
 .rw[br q];refine bf k [(30,f)] a ?_ ?_
  .simp only[U,u,q,a7,fZ,ba,a9];omega
  have o:=a1.cS cY (0+(b-1).toNat) m.1 2 y;have p:=aA.cS C (0+(b-1).toNat) m.2 2 y;rw[cV]at o p;refine g.bf [.h 46 2 2 (a1.fn (cY.set (b-1).toNat m.1)),.h 3 1 2 (aA.fn (C.set (b-1).toNat m.2)),.cells 35 (gL i e d 0),.cells 35 (gL i e d 0),Dk m.1] a ?_ ?_
  .simp only[U.Y,U,cV,ba,a9];and_intros<;>first|exact bt.same|exact o|exact p|rfl
  exact Pl
 rw[bm q];refine bf k [(30,l)] a ?_ ?_
 .simp only[U,u,a7,eX,dZ,ba,a9];and_intros<;>first|exact q|omega
 exact Pl
abbrev i':=dT×dL×m (Int×Int)×m Int
def oJ(d:Int)(b:i')(a:Int)(e:m c'):i'×Bool:=
 if(hn a b.1.1 b.2.1 b.2.2).2.getD (a-1).toNat 0=0/\b.2.1.1=0 then
  (if(fV d b.1 a e).2=f then(((fV d b.1 a e).1,b.2.1,hn a (fV d b.1 a e).1.1 b.2.1 (hn a b.1.1 b.2.1 b.2.2)),f)else((b.1,b.2.1,hn a b.1.1 b.2.1 b.2.2),l))
 else((b.1,b.2.1,hn a b.1.1 b.2.1 b.2.2),l)
def cl(d:Int)(a:i')(b:gz):i'×Bool:=
 if b.1=1 then(if(1<=b.2.1/\b.2.1<=2)/\dV b.2.2.1=f then oJ d a b.2.1 b.2.2.1 else(a,l))
 else if b.1=2 then(if 1<=b.2.1/\b.2.1<=2 then((a.1,a.2.1,hn b.2.1 a.1.1 a.2.1 a.2.2),f)else(a,l))
 else if b.1=3 then((a.1,b.2.2.2.1,a.2.2),f)
 else if b.1=4 then(if c a.1.2.2=0 then(((kF d a.1.1 b.2.2.2.2).1,a.2),f)else(a,l))
 else if b.1=5 then((js a.1,a.2),qy a.1)
 else(a,l)
structure fP(k:Nat)(b:i'):Prop where
 a:fb (6000+240*k) b.1
 bj:c b.2.2.1=2
 b4:c b.2.2.2=2
def DZ{b}{cg}{q}(g:fb k b)(e:(fV i b cg q).2=f):fb (k+240) (fV i b cg q).1/\(fV i b cg q).1=rX i b cg q/\ha i b=f/\(1<=cg/\cg<=2)/\dV q=f/\fJ i b.1 q=l:=by
 unfold fV at e⊢;split at e
 .rename_i d;rw[br d];simp only[rQ,cE,bA]at d;split at e
  .cases e
  rename_i s;have s:fJ i b.1 q=l:=by simpa using s
  rw[bm FI];exact⟨g.dc d.2 d.1.2 s,a,d.1.1,d.1.2,d.2,s⟩
 cases e
def fP.dc{b}{cg}{q}(u:fP k b):fP (k+1) (oJ i b cg q).1:=by
 have bU:=tj (cg:=cg) (b:=b.1.1) (d:=b.2.1) (bc:=b.2.2) u.bj u.b4;unfold oJ;split
 .split
  .rename_i j;have a:=tj (cg:=cg) (b:=(fV i b.1 cg q).1.1) (d:=b.2.1) (bc:=hn cg b.1.1 b.2.1 b.2.2) bU.1 bU.2;exact⟨(DZ u.a j).1.mono y,a.1,a.2⟩
  exact Ff
 exact Ff
def fP.mono{k A}{b}(a:fP k b)(d:k<=A):fP A b:=⟨a.a.mono y,a.bj,a.b4⟩
def fP.do{b}{a}(u:fP k b):fP (k+1) (cl i b a).1:=by
 unfold cl;split
 .split
  .exact u.dc
  exact u.mono y
 split
 .split
  .have bU:=tj (cg:=a.2.1) (b:=b.1.1) (d:=b.2.1) (bc:=b.2.2) u.bj u.b4;exact Ff
  exact u.mono y
 split
 .exact⟨u.a.mono y,u.bj,u.b4⟩
 split
 .split
  .exact⟨(fb.iu u.a.bc).mono y,u.bj,u.b4⟩
  exact u.mono y
 split
 .exact⟨(fb.step u.a).mono y,u.bj,u.b4⟩
 exact u.mono y
abbrev B2(b:Int)(a:i'):z:=.n (.agg (gL b a.1 a.2.1 0))
abbrev Ex(d:Int)(a:i')(b:Bool):z:=.Q [.agg (gL d a.1 a.2.1 0),.aq (.c (.bool b))]
abbrev g7(a:i'):m an:=lk a.2.2.1 a.2.2.2
def WR(i)(b)(cg)(q)(k)(o:fP k b)(D:k<=1000)(w:1<=cg/\cg<=2):
  Y r 39 [B2 i b,S cg,bD.S q] (g7 b) (Ex i (oJ i b cg q).1 (oJ i b cg q).2) (g7 (oJ i b cg q).1):=by
 refine Y.bl bd func39 rfl rfl rfl λC=>?_;have x:=Ch (r:=r) i b.1 b.2.1 cg b.2.2.1 b.2.2.2 o.a.bc.dR w o.bj o.b4;have A:=Xu (r:=r) i b.1 cg q (o.a.b9 y);have t:=tj (cg:=cg) (b:=b.1.1) (d:=b.2.1) (bc:=b.2.2) o.bj o.b4;have z:=DZ (i:=i) (cg:=cg) (q:=q) o.a;unfold oJ;rw[show((b.2.2.1,b.2.2.2):m (Int×Int)×m Int)=b.2.2 from a]at x;generalize hn cg b.1.1 b.2.1 b.2.2=e at *;have s:e.2.getD (0+(cg-1).toNat) aA.I=e.2.getD (cg-1).toNat 0:=q7;refine cu a v (g.aF x [0,1] a ?_);by_cases j:e.2.getD (cg-1).toNat 0=0
 rotate_left
 .rw[bm (λo=>j o.1)];refine bQ [(19,f),(25,f)] a ?_ ?_
  .simp only[U,s,a7,jC,dZ,ba,a9];and_intros<;>first|exact j|omega
  exact oQ
 by_cases p:b.2.1.1=0
 rotate_left
 .rw[bm (λo=>p o.2)];refine bQ [(19,l),(25,f)] a ?_ ?_
  .simp only[U,s,j,a7,jC,h0,dZ,ba,a9];and_intros<;>first|exact p|omega
  exact oQ
 rw[br ⟨j,p⟩];refine bQ [(19,l),(25,l)] a ?_ ?_
 .simp only[U,s,j,p,a7,h0,ba,a9];omega
 refine g.aF A [] a ?_;cases jH:(fV i b.1 cg q).2 with
 |false=>
  rw[bm E];exact bQ [(38,f)] a uc oQ
 |true=>
  rw[br a];have B:=(z jH).1;generalize(fV i b.1 cg q).1=w2 at *;have u:=Ch (r:=r) i w2 b.2.1 cg e.1 e.2 B.bc.dR w t.1 t.2;rw[show((e.1,e.2):m (Int×Int)×m Int)=e from a]at u;exact bQ [(38,l)] a uc (g.aF u [0,1] a (cu a v oQ))
def tM(k):∀(e b:m Int)j,(b++e).Pairwise (· < ·)->(if j=f then True else ∀d∈b,d<k)->(j=f->∀d∈e,k<=d/\(k∈b)) ->
  (if(e.foldl (gg k) (b,j)).2=f then(e.foldl (gg k) (b,j)).1 else(e.foldl (gg k) (b,j)).1++[k]).Pairwise (· < ·)
 |[],b,j,u,s,_=>by
  simp[h1]at u;cases j<;>simp at s⊢
  .exact o8.2 ⟨u,by simp,by exact bw⟩
  omega
 |i::e,b,j,u,s,y=>by
  rw[j_];obtain⟨x,q,t⟩:=o8.1 u;obtain⟨w,A⟩:=iE.1 q;have B:∀d∈b,d<i:=λd g=>t d g i jc;have p:((b++[i])++e).Pairwise (· < ·):=wE;have v:(b++e).Pairwise (· < ·):=o8.2 ⟨x,A,λd g r o=>t d g r (m_ _ o)⟩;unfold gg;cases j with
  |true=>
   simp[dH];split
   .exact tM k e b f v E λ_ d g=>⟨by grind,(y a i jc).2⟩
   exact tM k e (b++[i]) f p E λ_ d g=>⟨by grind,List.mem_append_left _ (y a i jc).2⟩
  |false=>
   simp[j9,dh]at s⊢;split
   .split
    .rename_i z;subst z;exact tM i e (b++[i]) f p E λ_ d g=>⟨by grind,by simp⟩
    refine tM k e (b++[k,i]) f ?_ E λ_ d g=>⟨by grind,by simp⟩
    rw[mj];refine o8.2 ⟨x,iE.2 ⟨λr o=>?_,q⟩,λd g r o=>?_⟩
    .rcases fo.1 o with rfl|o
     .omega
     have:=w r o;omega
    rcases fo.1 o with rfl|o
    .exact s d g
    exact t d g r o
   exact tM k e (b++[i]) l p (by simp;grind) E
def Z4{d}{k}(u:d.Pairwise (· < ·)):(e6 d k).Pairwise (· < ·):=tM k d [] l wE E E
def CJ:∀{d a:m Int},a.Pairwise (· < ·)->(d.foldl e6 a).Pairwise (· < ·)
 |[],a,b=>b
 |e::d,a,b=>CJ (d:=d) (Z4 b)
def aat(d):(h8 d).Pairwise (· < ·):=by
 unfold h8;have:∀(d:m eF) b,b.Pairwise (· < ·)->(d.foldl (λa e=>(gG e.2).foldl e6 a) b).Pairwise (· < ·):=λd=>by
  induction d with
  |nil=>simp
  |cons e d g=>exactλb i=>g _ (CJ i)
 simp_all
def X8(d):c (d.flatMap fW)<=c (hh d):=by
 induction d with
 |nil=>simp
 |cons o d a=>
  have:c (fW o)<=c (d_ o.2):=Q8;simp[hh,sw,dn]at a⊢;omega
def rJ(b:m Int)(d:Int):Int:=match b.findIdx? (λe=>e==d)with
 |some a=>a
 |none=>-1
def UU(d)(aa):Y r 136 [aA.S d,S aa] [] (S (rJ d aa)) []:=by
 refine Y.K func136 rfl λm=>?_;have t:=m.S 0 a;refine aZ a v (g.aL 0 (λb=>b<=c d/\∀e,e<b->d.getD e 0≠aa) (λb:Nat=>[(0,aA.S d),(1,S aa),(7,S (c d)),(8,S b)]) (λ_=>[]) (λb=>c d-b) 0 a E a v a ⟨by omega,by omega⟩ ?_);rintro b ⟨p,q⟩;by_cases k:b<c d
 .have j:d.getD (b:Int).toNat aA.I=d.getD b 0:=rfl;by_cases s:d.getD b 0=aa
  .have:rJ d aa=b:=by
    have:d.findIdx? (λi=>i==aa)=h b:=by rw[AE];exact⟨k,by grind,λe o=>by grind⟩
    simp[rJ,this]
   rw[this];refine a6 [(9,f),(16,f)] a ?_ (g.aX (bW.zero a));simp only[U,j,bA,hg,ba,a9];and_intros<;>first|omega|omega
  refine a6 [(9,f),(16,l)] a ?_ (g.aA (b+1) a ?_ v ⟨k,λe o=>?_⟩ y)
  .simp only[U,j,a7,bA,eX,ba,a9];and_intros<;>first|grind|omega
  .simp
  grind
 have:rJ d aa=-1:=by have:d.findIdx? (λi=>i==aa)=n:=wC;simp[rJ,this]
 rw[this];exact Qn
abbrev Bp:bL:=en (e0 aA) c8 (λa b=>bh (a.contains b)) λ_ _=>[]
def Mz:bM r 89 Bp:=.bm λb d _=>by refine Y.K func89 rfl λi=>?_;have e:a8 r [(136,en (e0 aA) c8 (λb d=>S (rJ b d)) λ_ _=>[])]:=.cons (.bm λb d _=>UU b d) .nil;refine b_ e a Ny (g.aw a ?_);simp[U,aA.E,a9];unfold rJ;grind
def Ux(o)(b):Y r 88 [iM o,ax (.O [.S l 1 (c b) (aA.fn b)])] [] (bh (!b.contains o.1)) []:=by refine Y.K func88 rfl λe=>?_;have d:a8 r [(89,Bp)]:=.cons Mz .nil;refine b_ d a Ny (g.aw a ?_);simp only[aA.E];simp
abbrev Gn(e:cq)(b:m eF)(d:O)(a:m Int)(i:Z)(g:m Int):m an:=[jV e,.x,.cells 30 l9,.x,.x,.cells 30 [cI a2 e.1,cI bj b,cI a1 e.2.2,d,.r 6 1 (c a) (aA.fn a)],.r 3 1 (c a) (aA.fn a),je i g]
def TG(i)(b)(j)(o:dN b)(t:nY b):Y (aj.aJ V) 49 [S i,b1 b,aA.S j] [] (jY (kF i b j).1 (kF i b j).2) []:=by
 refine Y.bD func49 rfl rfl rfl λz=>?_;have m:a8 (aj.aJ V) [(72,xB)]:=.cons Eu .nil;have N:=o.a2;have T:=o.a7;unfold kF;cases r:hV i b with
 |false=>
  refine g.aT b6 da m [(17,f)] 200 a ?_ ?_
  .simp only[U,a2.E,a2.U,bj.E,bj.U,a1.E,a1.U,r,t,ba,a9,ip]
  refine g.freeze 6 2 a a a ?_;refine g.cp da [] a ?_ a a a fI;simp
 |true=>
 rw[br a];refine g.aT b6 da m [(17,l)] 200 a ?_ ?_
 .simp only[U,a2.E,a2.U,bj.E,bj.U,a1.E,a1.U,r,t,ba,a9,f_]
 refine g.aF (pe b o.a2 o.bp o.a7 o.bx o.aN) [] a (g.aT b6 da m [(1000004,f)] 200 a v (g.freeze 5 1 a a a ?_));refine g.aT b6 da m [] 200 a v (g.a_ (Ix b.2.1 o.a7 88 [.S l 1 (c j) (aA.fn j)] (λk=>!j.contains k.1) λk _=>Ux k j) [4] a bl ?_);rintro⟨F,C⟩;simp only[Bool.not_not]at C⊢;have B:c (b.2.1.filter λk=>j.contains k.1)<=c b.2.1:=kB _ _;have J:∀k∈b.2.1.filter (λk=>j.contains k.1),k∈b.2.1:=λk s=>(kD.1 s).1;have M:c (hh (b.2.1.filter λk=>j.contains k.1))<=c (hh b.2.1):=F9 b.2.1 λk=>j.contains k.1;generalize b.2.1.filter (λk=>j.contains k.1)=d at *;refine g.aT b6 da m [(1000005,f)] 200 a v (g.bw 4 a a a (by simp;exact B) (by simp;exact⟨v,B⟩) (g.bw 3 a a a E (by simp;exact v) (g.cl 5 4 3 1 (aA.fn []) a a ?_)));refine g.bf [jV b,.x,.cells 30 l9,.x,.x,.cells 30 [cI a2 b.1,cI bj d,cI a1 b.2.2,cB,.r 6 1 0 (aA.fn [])],.r 3 1 0 (aA.fn [])] a ?_ ?_
 .simp only[U.Y,U,ba,a9];and_intros<;>first|exact bt.same|exactλe q=>C e q|rfl|simp
 refine g.aT b6 da m [] 200 a v (g.hZ a a a λw=>?_);refine g.aT b6 da m [] 200 a v ?_;refine g.aL 8 (λe=>e<=c d) (λe:Nat=>[(4,aG 0 0),(6,aG 2 0),(8,aG 5 0),(9,sV w),(32,bj.S d),(33,S (c d)),(34,S e)])
  (λe=>Gn b d cB [] w ((d.take e).flatMap fW)) (λe=>c d-e) 0 a E a E a y ?_
 intro e q;by_cases p:e<c d
 .have x:d.getD e bj.I=d.getD e (0,[]):=rfl;have s:=t.dX _ (J _ (om (I:=(0,[])) p));have R:=F' p;have K:=t.ey;have A:(d.take (e+1)).flatMap fW=(d.take e).flatMap fW++fW (d.getD e (0,[])):=by rw[ie p (0,[])];simp
  generalize d.getD e (0,[])=k at *;refine g.aT b6 da m [(35,f)] 200 a bV ?_;simp only[c5,x];refine g.aF (Ck k s.1 y) [] a (g.aT b6 da m [] 200 a v (g.aF (Ik w ((d.take e).flatMap fW) (fW k)) [7] a ?_));rw[<-A];refine g.aT b6 da m [] 200 a ?_ (g.aA (e+1) a E E p y);exact oP
 obtain rfl:e=c d:=y;rw[c9];have W:=X8 d;have K:=t.ey;refine g.aT b6 da m [(35,l)] 200 a E (g.aC ?_);refine g.aT b6 da m [] 200 a v (g.aF (VQ w (d.flatMap fW) (h8 d) y (aat d) λQ=>by rw[vu];simp[yD]) [7] a (g.aT b6 da m [] 200 a v ?_));refine g.aL 8 (λe=>e<=c b.1) (λe:Nat=>[(4,aG 0 0),(6,aG 2 0),(8,aG 5 0),(47,a2.S b.1),(48,S (c b.1)),(49,S e)])
  (λe=>Gn b d (cI aA (h8 d)) ((b.1.take e).map (·.1)) w (d.flatMap fW)) (λe=>c b.1-e) 0 a E a E a y ?_
 intro e q;have O:c ((b.1.take e).map (·.1))=e:=bV;by_cases p:e<c b.1
 .have x:b.1.getD e a2.I=b.1.getD e (0,[]):=rfl;have A:=map_take (ae:=λu:b'=>u.1) p (0,[]);generalize(b.1.take e).map (λu:b'=>u.1)=D at *;generalize b.1.getD e (0,[])=u at *;have s:=aA.a0 D u.1;refine g.aT b6 da m [(50,f)] 200 a ?_ (g.aA (e+1) a E ?_ p y)
  .simp[-al,x,p,a7,show ec.bytes=8 from a];omega
  rw[A];simp only[U.Y,U,c5,x,dn,gW,ba,a9];and_intros<;>first|exact bt.same|exact s|rfl|omega
 obtain rfl:e=c b.1:=y;rw[c9];refine g.aT b6 da m [(50,l)] 200 a E (g.aC ?_);refine g.aT b6 da m [] 200 a v (g.freeze 8 5 a a a ?_);refine g.freeze 6 2 a a a ?_;refine g.cp da [] a ?_ a a a fI;simp[bj.E]
def Iy(i)(b)(d)(k)(e:fP k b)(w:k<=1000):
  Y r 17 [B2 i b,k' d] (g7 b) (Ex i (cl i b d).1 (cl i b d).2) (g7 (cl i b d).1):=by
 refine Y.bl bd func17 rfl rfl rfl λz=>?_;have o:=e.a.b9 y;have x:a8 r [(27,jI),(38,sN),(41,GM)]:=.cons ku (.cons t38 (.cons adp .nil));unfold cl;by_cases C:d.1=1
 .rw[br C];by_cases s:1<=d.2.1/\d.2.1<=2
  rotate_left
  .rw[bm (λe=>s e.1)];refine bf x [(13,f),(16,l),(21,l)] a ?_ ?_
   .simp only[U,C,fZ,ba,a9];grind
   exact oQ
  cases j:dV d.2.2.1 with
  |false=>
   rw[bm E];exact bf x [(13,f),(16,f),(21,l)] a O7 oQ
  |true=>
   rw[br ⟨s,rfl⟩];have q:=WR (r:=r) i b d.2.1 d.2.2.1 k e w s;exact bf x [(13,f),(16,f),(21,f)] a O7 (g.aF q [0,1] a E')
 rw[bm C];by_cases s:d.1=2
 .rw[br s];by_cases j:1<=d.2.1/\d.2.1<=2
  rotate_left
  .rw[bm j];refine bf x [(13,l),(31,f),(34,l)] a ?_ ?_
   .simp only[U,s,fZ,ba,a9];grind
   exact oQ
  rw[br j];have u:=Ch (r:=r) i b.1 b.2.1 d.2.1 b.2.2.1 b.2.2.2 e.a.bc.dR j e.bj e.b4;refine bf x [(13,l),(31,f),(34,f)] a ?_ ?_
  .simp only[U,s,j,na,and_self,fZ,ba,a9];decide
  exact g.aF u [0,1] a E'
 rw[bm s];by_cases j:d.1=3
 .rw[br j];refine bf x [(13,l),(31,l),(40,f)] a ?_ ?_
  .simp only[U,j,fZ,ba,a9];decide
  exact oQ
 rw[bm j];by_cases p:d.1=4
 .rw[br p];by_cases m:c b.1.2.2=0
  .rw[br m];have t:(c b.1.2.2:Int)=0:=y;refine bf x [(13,l),(31,l),(40,l),(46,f),(51,f)] a ?_ ?_
   .simp only[U,p,t,o.bc,o.b8,a2.E,a2.U,bj.E,bj.U,a1.E,a1.U,aA.E,aA.U,fZ,ba,a9];decide
   refine g.cq () [0,1] ?_ ya;exact zT
  rw[bm m];refine bf x [(13,l),(31,l),(40,l),(46,f),(51,l)] a ?_ ?_
  .simp only[U,p,fZ,eX,dZ,ba,a9];and_intros<;>first|decide|omega
  exact oQ
 rw[bm p];by_cases m:d.1=5
 .rw[br m];have q:=Xf (r:=r) b.1 o.bc o.cx o.cL;refine bf x [(13,l),(31,l),(40,l),(46,l),(67,f)] a ?_ ?_
  .simp only[U,m,fZ,ba,a9];decide
  exact g.aF q [] a E'
 rw[bm m];refine bf x [(13,l),(31,l),(40,l),(46,l),(67,l)] a ?_ ?_
 .simp only[U,eX,dZ,ba,a9];grind
 exact oQ
abbrev vp(a:dL):m O:=[.c (.int .i64 a.1),.c (.int .i64 a.2.1),.c (.int .i64 a.2.2.1),.c (.V a.2.2.2)]
abbrev BZ(cY:m (Int×Int))(a:m Int):m an:=[.h 46 2 (c cY) (a1.fn cY),.h 3 1 (c a) (aA.fn a)]
abbrev zx(a:eT)(d b:Nat):m O:=.c (.int .i64 a.1)::([cI a2 a.2.1.1.1,cI bj a.2.1.1.2.1,cI a1 a.2.1.1.2.2,cI aA a.2.1.2.1,.r d 1 (c a.2.1.2.2) (aA.fn a.2.1.2.2)]++vp a.2.2.1++[.R b (.S (c a.2.2.2.1) 2 0 (c a.2.2.2.1)),.R (b+1) (.S (c a.2.2.2.2) 1 0 (c a.2.2.2.2))])
abbrev mX(a:eT):an:=.cells 35 (lx a)
abbrev hQ(a:dT):an:=.r 3 1 (c a.2.2) (aA.fn a.2.2)
def H1(a:eT)(d e g i:Bool):m an:=
 match d,e,g,i with
 |true,f,f,f=>[mX a,.cells 35 (.c (.int .i64 a.1)::([cI a2 a.2.1.1.1,cI bj a.2.1.1.2.1,cI a1 a.2.1.1.2.2,cI aA a.2.1.2.1,.r 2 1 (c a.2.1.2.2) (aA.fn a.2.1.2.2)]++vp a.2.2.1++[.R 3 (.S (0+c a.2.2.2.1) 2 0 (0+c a.2.2.2.1)),.R 4 (.S (0+c a.2.2.2.2) 1 0 (0+c a.2.2.2.2))])),hQ a.2.1,
   .h 46 2 (0+c a.2.2.2.1) (ce 0 (λb=>([]:m (m N)).getD b []) (a1.fn a.2.2.2.1)),.h 3 1 (0+c a.2.2.2.2) (ce 0 (λb=>([]:m (m N)).getD b []) (aA.fn a.2.2.2.2))]
 |true,f,f,l=>[mX a,fO,hQ a.2.1,.h 46 2 (0+c a.2.2.2.1) (ce 0 (λb=>([]:m (m N)).getD b []) (a1.fn a.2.2.2.1)),.h 3 1 (0+c a.2.2.2.2) (ce 0 (λb=>([]:m (m N)).getD b []) (aA.fn a.2.2.2.2))]
 |true,f,l,_=>[mX a,fO,hQ a.2.1,.h 46 2 (0+c a.2.2.2.1) (ce 0 (λb=>([]:m (m N)).getD b []) (a1.fn a.2.2.2.1))]
 |true,l,_,_=>[mX a,fO,hQ a.2.1]
 |false,_,_,_=>[mX a,fO]
abbrev KC(b:Nat):z:=ax (.S f b 0 λa=>([]:m (m N)).getD a [])
abbrev Ej(a:dT)(b:Nat):m O:=[cI a2 a.1.1,cI bj a.1.2.1,cI a1 a.1.2.2,cI aA a.2.1,.r b 1 (c a.2.2) (aA.fn a.2.2)]
abbrev aeI(a:eT)(b:Nat):z:=
 [aG 0 0,S a.1,aG 0 1,fQ a.2.1,.n (.agg (Ej a.2.1 2)),aG 0 6,ei a.2.2.1,KC 2,aG 0 10,a1.S a.2.2.2.1,cz 3 (.S (0+c a.2.2.2.1) 2 0 (0+c a.2.2.2.1)),KC 1,aG 0 11,aA.S a.2.2.2.2,cz 4 (.S (0+c a.2.2.2.2) 1 0 (0+c a.2.2.2.2)),
  .n (.agg (.c (.int .i64 a.1)::(Ej a.2.1 2++vp a.2.2.1++[.R 3 (.S (0+c a.2.2.2.1) 2 0 (0+c a.2.2.2.1)),.R 4 (.S (0+c a.2.2.2.2) 1 0 (0+c a.2.2.2.2))]))),.any].getD b .any
set_option maxRecDepth 20000 in
def u4(b)(s:p0 b.2.1)(k:c b.2.2.2.1<=4000000)(I:c b.2.2.2.2<=4000000):Y r 18 [fq b] [] (.n (.agg (zx b 0 1))) ([hQ b.2.1]++BZ b.2.2.2.1 b.2.2.2.2):=by
 refine Y.bl bd func18 rfl rfl rfl λm=>?_;have x:a8 r [(43,k6 [fQ b.2.1] [] (.n (.agg (Ej b.2.1 0))) [hQ b.2.1])]:=.cons (l7 (Is b.2.1 s.bc s.cx s.cL)) .nil;have i:(0+c b.2.2.2.1)*ys.bytes<=140737488355328:=by rw[show ys.bytes=16 from a];omega
 have e:(0+c b.2.2.2.2)*ec.bytes<=140737488355328:=by rw[show ec.bytes=8 from a];omega
 refine bf x [(1000001,f)] a v ?_;refine g.cu b6 (aeI b) (mx (H1 b) 4 10 14 16) a a a a
  ⟨.aY,
  .aY,
  .aY,
  .aY,
  cp.ay a a a a a a (ee (bg:=[]) bd x (ao:=h _) a ⟨rfl,rfl⟩),
  .aY,
  .aY,
  .aY,
  .aY,
  .aY,
  cp.eR a a a a a a (ee (bg:=[(3000013,f)]) bd x (ao:=h _) a i),
  .aY,
  .aY,
  .aY,
  cp.eT a a a a a a (ee (bg:=[(3000017,f)]) bd x (ao:=h _) a e),
  .aY,
  cp.eU a a a a a a (ee (bg:=[]) bd x (ao:=h _) a v),v⟩ ?_
 intro z j;show g r _ _ _ _ _ (H1 b (z 4) (z 10) (z 14) (z 16));rw[j 4 ca,j 10 ca,j 14 ca,j 16 ca];refine qQ x [] 1 a v (g.bf [mX b,.cells 35 (zx b 2 3),hQ b.2.1,.h 46 2 (c b.2.2.2.1) (a1.fn b.2.2.2.1),.h 3 1 (c b.2.2.2.2) (aA.fn b.2.2.2.2)] a ?_ ?_)
 .simp[o_]
 refine g.bh () [2,3,4] ?_ (λo d=>absurd d E);simp
def T7(b)(j:p0 b.2.1)(d:c b.2.2.2.1<=4000000)(i:c b.2.2.2.2<=4000000):Y r 18 [fq b] [] (fq b) []:=by have e:=Y.bM (aM:=[hQ b.2.1,.h 46 2 (c b.2.2.2.1) (a1.fn b.2.2.2.1)]) (u4 (r:=r) b j d i) a E a E;have g:=Y.bM (aM:=[hQ b.2.1]) e a E a E;refine g.b2 a ?_ a;simp[hz]
end
section
variable {r:aj V}
def IW(A)(d)(e:c d<=4000000):Y r 84 [ql A,a1.S d] [] (pJ (mG A d)) []:=by refine Y.bl bd func84 rfl rfl rfl λj=>?_;have i:a8 r [(131,ev [ql A,a1.S d] (pJ (mG A d)))]:=.cons (eI (WT A d e)) .nil;refine b_ i a (by simp[a1.E];rfl) ?_;refine g.cq () [] ?_ (λk b=>absurd b E);simp
abbrev qo(a:gz):an:=.cells 38 (B8 a)
abbrev pN(a:Int)(d:dT)(b:dL):an:=.cells 35 (gL a d b 6)
abbrev ab7(a:Int×Int):z:=ax (.val (.func (.func 84) #[.agg [.int .i64 a.1,.int .i64 a.2].toArray] #[]))
abbrev py(d b:av×Z)(a:eT)(e:gz):m an:=iB d b++[.cells 35 (lx a),qo e,fO]
abbrev Ni(i:Nat)(j:dT)(e:dL)(g:Int×Int)(b:cq)(a:(Int×Int)×Int)(d:Nat):z:=
 [ab7 g,aG 8 0,aG 8 0,aG 8 1,aG 8 1,b1 j.1,aG 8 0,aG 8 0,aG 8 6,ei e,b1 b,a1.S b.2.2,pJ a,pJ a,ql a.1,S a.2,aG i 0,.any,S a.2].getD d .any
def xO(a:m an)(b:Int×Int)(_ d e:Bool):m an:=
 match d,e with
 |false,_=>a
 |true,l=>a++[Nm]
 |true,f=>a++[Dk b]
abbrev qr(b:m Int):={a:Nat->m N // bt 2 a (aA.fn b)}
abbrev n6(e d:av×Z)(b:eT)(g:gz)(j:Int)(o:dT)(k:dL)(cY:m (Int×Int))(a:Nat->m N)(i:gz):m an:=py e d b g++[.h 46 2 2 (a1.fn cY),.h 3 1 2 a,pN j o k]++[qo i]
set_option maxRecDepth 20000 in
def Ir(t k)(p)(e)(A)(i)(o)(d)(b)(cY)(m)(D:oU o.1)(M:1<=b/\b<=2)(R:c cY=2)(O:c m=2):
  bk (ι:=qr (hn b o.1 d (cY,m)).2) r 47 [aG 8 0,S b] (n6 t k p e i o d cY (aA.fn m) A) (λ_=>.Q []) (λF=>n6 t k p e i o d (hn b o.1 d (cY,m)).1 F.1 A++[.x]):=by
 refine bk.bP func47 rfl rfl rfl (g.aW ?_);have J:=(tL (r:=r) D d).ev.aN;have aE:=C3 (r:=r) D d;unfold hn;generalize mF o.1 d=q at *;have Q:(b-1).toNat<2:=y;have T:(0:Nat)+(b-1).toNat<2:=y;have K:cY.getD (b-1).toNat (0,0)=cY.getD (0+(b-1).toNat) a1.I:=q7;rw[K];have E:=IW (r:=r) (cY.getD (0+(b-1).toNat) a1.I) q.2.2 J;generalize mG (cY.getD (0+(b-1).toNat) a1.I) q.2.2=u at *;have j:a8 r [(32,ev [b1 o.1,ei d] (b1 q))]:=.cons (eI aE) .nil;have C:m.getD (0+(b-1).toNat) aA.I=m.getD (b-1).toNat 0:=q7;by_cases w:m.getD (b-1).toNat 0=0
 rotate_left
 .rw[bm w];refine g.fg 0 1 ?_;refine g.cK 10 a bl ?_;refine bf j [(15,f)] a ?_ ?_
  .simp only[U,C,a7,jC,dZ,ba,a9];and_intros<;>first|exact w|omega
  exact OJ
 rw[br w];refine bf j [(15,l)] a ?_ ?_
 .simp only[U,C,w,a7,h0,ba,a9];omega
 refine g.cI _ _ a a (ey.hv a a a) λN=>?_;refine bf j [(1000002,f)] a v ?_;refine g.cu b6 (Ni 10 o d (cY.getD (0+(b-1).toNat) a1.I) q u) (lR (xO (n6 t k p e i o d cY (aA.fn m) A) u.1) 18 16 17) a a a a
  ⟨.aE,
  .aE,
  .aE,
  .aE,
  .aE,
  .aE,
  .aE,
  .aE,
  .aE,
  .aE,
  .dt bd j (cw:=by exact a),
  .aE,
  cp.eK a a a (λx s I=>aV.gV (λ_ _ _ _=>iY a) a a N.2 a E a a a),
  .aE,
  .aE,
  .aE,
  cp.eB a a a a a (λx=>by cases x<;>exact ee (bg:=[]) bd j (ao:=h _) a v),
  cp.eC a a a a a (λx=>by cases x<;>exact ee (bg:=[]) bd j (ao:=h _) a v),
  cp.eA a a a a (λs I=>by cases s<;>cases I<;>exact aV.y),v⟩ ?_
 intro z B;show g r _ _ _ _ _ (xO (n6 t k p e i o d cY (aA.fn m) A) u.1 (z 18) (z 16) (z 17));rw[B 18 ca,B 16 ca,B 17 ca];refine bf j [(1000004,f)] a tX (g.cK 10 a bl ?_);have dK:=a1.cS cY (0+(b-1).toNat) u.1 2 y;have eG:=aA.cS m (0+(b-1).toNat) u.2 2 y;rw[cV]at dK eG;refine g.bf (n6 t k p e i o d (cY.set (b-1).toNat u.1) (aA.fn m) A++[.x]) a Pc ?_;exact OX
abbrev uN(i g:av×Z)(b:eT)(d:gz)(k:Int)(p:dT)(o:dL)(cY:m (Int×Int))(a:Nat->m N)(j:gz)(e:dT):m an:=py i g b d++[.h 46 2 2 (a1.fn cY),.h 3 1 2 a,pN k p o]++[qo j,.x,gh e]
set_option maxRecDepth 20000 in
def TZ(t k)(p)(e)(A)(w)(i)(o)(d)(b)(cY)(m)(E:oU o.1)(Q:1<=b/\b<=2)(T:c cY=2)(M:c m=2):
  bk (ι:=qr (hn b o.1 d (cY,m)).2) r 47 [aG 8 0,S b] (uN t k p e i o d cY (aA.fn m) A w) (λ_=>.Q []) (λJ=>uN t k p e i o d (hn b o.1 d (cY,m)).1 J.1 A w++[.x]):=by
 refine bk.bP func47 rfl rfl rfl (g.aW ?_);have K:=(tL (r:=r) E d).ev.aN;have aE:=C3 (r:=r) E d;unfold hn;generalize mF o.1 d=q at *;have R:(b-1).toNat<2:=y;have V:(0:Nat)+(b-1).toNat<2:=y;have O:cY.getD (b-1).toNat (0,0)=cY.getD (0+(b-1).toNat) a1.I:=q7;rw[O];have N:=IW (r:=r) (cY.getD (0+(b-1).toNat) a1.I) q.2.2 K;generalize mG (cY.getD (0+(b-1).toNat) a1.I) q.2.2=u at *;have j:a8 r [(32,ev [b1 o.1,ei d] (b1 q))]:=.cons (eI aE) .nil;have D:m.getD (0+(b-1).toNat) aA.I=m.getD (b-1).toNat 0:=q7;by_cases B:m.getD (b-1).toNat 0=0
 rotate_left
 .rw[bm B];refine g.fg 0 1 ?_;refine g.cK 12 a bl ?_;refine bf j [(15,f)] a ?_ ?_
  .simp only[U,D,a7,jC,dZ,ba,a9];and_intros<;>first|exact B|omega
  exact OJ
 rw[br B];refine bf j [(15,l)] a ?_ ?_
 .simp only[U,D,B,a7,h0,ba,a9];omega
 refine g.cI _ _ a a (ey.hv a a a) λF=>?_;refine bf j [(1000002,f)] a v ?_;refine g.cu b6 (Ni 12 o d (cY.getD (0+(b-1).toNat) a1.I) q u) (lR (xO (uN t k p e i o d cY (aA.fn m) A w) u.1) 18 16 17) a a a a
  ⟨.aE,
  .aE,
  .aE,
  .aE,
  .aE,
  .aE,
  .aE,
  .aE,
  .aE,
  .aE,
  .dt bd j (cw:=by exact a),
  .aE,
  cp.eK a a a (λx s I=>aV.gV (λ_ _ _ _=>iY a) a a F.2 a N a a a),
  .aE,
  .aE,
  .aE,
  cp.eB a a a a a (λx=>by cases x<;>exact ee (bg:=[]) bd j (ao:=h _) a v),
  cp.eC a a a a a (λx=>by cases x<;>exact ee (bg:=[]) bd j (ao:=h _) a v),
  cp.eA a a a a (λs I=>by cases s<;>cases I<;>exact aV.y),v⟩ ?_
 intro z C;show g r _ _ _ _ _ (xO (uN t k p e i o d cY (aA.fn m) A w) u.1 (z 18) (z 16) (z 17));rw[C 18 ca,C 16 ca,C 17 ca];refine bf j [(1000004,f)] a tX (g.cK 12 a bl ?_);have dK:=a1.cS cY (0+(b-1).toNat) u.1 2 y;have eG:=aA.cS m (0+(b-1).toNat) u.2 2 y;rw[cV]at dK eG;refine g.bf (uN t k p e i o d (cY.set (b-1).toNat u.1) (aA.fn m) A w++[.x]) a Pc ?_;exact OX
end
section
variable {r:aj V}
def Vy(R)(b)(C:c R.2<=4000000):Y r 140 [fA R,aA.S b] [] (fA (hB R b)) []:=by
 refine Y.bl bd func140 rfl rfl rfl λp=>?_;have j:a8 r [(89,Bp)]:=.cons Mz .nil;refine bf j [(1000002,f)] a v (g.cl 2 1 103 2 (bG.fn []) a a ?_);refine b_ j a v ?_;refine g.aL 4 (λe=>e<=c R.2) (λe:Nat=>[(1,aA.S b),(4,aG 1 0),(5,aG 2 0),(12,bG.S R.2),(13,S (c R.2)),(14,S e)])
  (λe=>J9 R ((R.2.take e).filter λd=>b.contains d.1)) (λe=>c R.2-e) 0 a E a E a y ?_
 intro e k;have o:=CB R.2 (λd=>b.contains d.1) k;by_cases u:e<c R.2
 .have I:R.2.getD e bG.I=d9 R e:=rfl;have s:(R.2.take (e+1)).filter (λd=>b.contains d.1)=if b.contains (d9 R e).1=f then(R.2.take e).filter (λd=>b.contains d.1)++[d9 R e]else(R.2.take e).filter (λd=>b.contains d.1):=CC u (0,[]);generalize(R.2.take e).filter (λd=>b.contains d.1)=m at *;generalize d9 R e=d at *;cases ae:b.contains d.1 with
  |true=>
   rw[br ae]at s;have C:=bG.a0 m d;refine bf j [(15,f),(21,f)] a NT (g.aA (e+1) a E ?_ u y);exact N6
  |false=>
   rw[bm dA]at s;refine bf j [(15,f),(21,l)] a Pw (g.aA (e+1) a E ?_ u y);simp_all
 exact Pa
abbrev Hy(a:dT)(b d:Bool):m an:=
 match b,d with
 |false,_=>[gh a,.cells 30 l9]
 |true,l=>[gh a,.cells 30 l9,.h 70 2 (c a.1.1) (a2.fn a.1.1),.h 74 2 (c a.1.2.1) (bj.fn a.1.2.1)]
 |true,f=>[gh a,.cells 30 [.R 2 (.S (c a.1.1) 2 0 (c a.1.1)),.R 3 (.S (c a.1.2.1) 2 0 (c a.1.2.1)),cI a1 a.1.2.2,cI aA (aA.af (c a.2.1) (aA.fn a.2.1)),cI aA (aA.af (c a.2.2) (aA.fn a.2.2))],.h 70 2 (c a.1.1) (a2.fn a.1.1),.h 74 2 (c a.1.2.1) (bj.fn a.1.2.1)]
abbrev aeH(a:dT)(b:Nat):z:=
 [aG 0 0,b1 a.1,.n (.agg [.R 2 (.S (c a.1.1) 2 0 (c a.1.1)),.R 3 (.S (c a.1.2.1) 2 0 (c a.1.2.1)),cI a1 a.1.2.2]),aG 0 3,aA.S a.2.1,aA.S (aA.af (c a.2.1) (aA.fn a.2.1)),aG 0 4,aA.S a.2.2,aA.S (aA.af (c a.2.2) (aA.fn a.2.2)),
  .n (.agg [.R 2 (.S (c a.1.1) 2 0 (c a.1.1)),.R 3 (.S (c a.1.2.1) 2 0 (c a.1.2.1)),cI a1 a.1.2.2,cI aA (aA.af (c a.2.1) (aA.fn a.2.1)),cI aA (aA.af (c a.2.2) (aA.fn a.2.2))]),.any].getD b .any
def I5(b)(j:dN b.1)(i:c b.2.1<=4000000)(o:c b.2.2<=4000000):Y r 51 [fQ b] [] (.n (.agg [.R 0 (.S (c b.1.1) 2 0 (c b.1.1)),cI bj b.1.2.1,cI a1 b.1.2.2,cI aA b.2.1,cI aA b.2.2])) [.h 70 2 (c b.1.1) (a2.fn b.1.1)]:=by
 refine Y.bl bd func51 rfl rfl rfl λq=>?_
 have x:a8 r [(57,k6 [b1 b.1] [] (.n (.agg [.R 0 (.S (c b.1.1) 2 0 (c b.1.1)),.R 1 (.S (c b.1.2.1) 2 0 (c b.1.2.1)),.c (.S l 2 (c b.1.2.2) (a1.fn b.1.2.2))])) [.h 70 2 (c b.1.1) (a2.fn b.1.1),.h 74 2 (c b.1.2.1) (bj.fn b.1.2.1)]),
   (53,df (e0 aA) (λd=>aA.S d) λd=>[c d<=4000000])]:=.cons (l7 (pe b.1 j.a2 j.bp j.a7 j.bx j.aN)) (.cons (.ba λd m=>Ca d m) .nil)
 refine bf x [(1000001,f)] a v ?_;refine g.cu b6 (aeH b) (pg (Hy b) 2 10) a a a a
  ⟨.bI,.bI,cp.gA a a (ee (bg:=[]) bd x (ao:=h _) a E),.bI,.bI,.dr bd x (cw:=by exact⟨aA.U _,by rw[aA.E];exact i⟩),.bI,.bI,.dr bd x (cw:=by exact⟨aA.U _,by rw[aA.E];exact o⟩),.bI,
   cp.gB a a (ee (bg:=[]) bd x (ao:=h _) a v),v⟩ ?_
 intro z e;show g r _ _ _ _ _ (Hy b (z 2) (z 10));rw[e 2 ca,e 10 ca];refine qQ x [] 1 a v (g.bw 3 a a a E E (g.bf [gh b,.cells 30 [.R 2 (.S (c b.1.1) 2 0 (c b.1.1)),cI bj b.1.2.1,cI a1 b.1.2.2,cI aA b.2.1,cI aA b.2.2],.h 70 2 (c b.1.1) (a2.fn b.1.1),.x] a ?_ ?_))
 .simp[aA.E,hz]
 refine g.bh () [2] ?_ (λp k=>absurd k E);simp
abbrev qc(a:m b'):an:=.h 70 2 (c a) (a2.fn a)
abbrev xM(b a:Nat):z:=cz 0 (.S b 2 0 a)
def UZ(d)(A)(D:A<=c d)(J:c d<=4000000)(o)(ah)(j:b'->Bool)(z:∀s,s∈d.take A->Y r o [fA s,ax (.O ah)] [] (bh (j s)) []):
  Y r 125 [xM (c d) A,ax (.fn (.func o) [] [.O ah])] [qc d] (S (gF j (d.take A))) [qc d]:=by
 refine Y.K func125 rfl λF=>?_;refine aZ a v ?_;have C:c (d.take A)=A:=bV;have m:∀e,e<A->(d.take A).getD e (0,[])=d.getD e (0,[]):=λe p=>by simp[io,p]
 refine g.aL 1 (λb=>b<=A/\∀e,e<b->j ((d.take A).getD e (0,[]))=l) (λb:Nat=>[(0,xM (c d) A),(1,ax (.fn (.func o) [] [.O ah])),(7,S A),(8,S b)]) (λ_=>[qc d]) (λb=>A-b) 0 a E a E a ⟨by omega,by omega⟩ ?_;rintro b ⟨w,k⟩;by_cases i:b<A
 .have B:d.getD b (0,[])∈d.take A:=by rw[<-m b i];grind
  have x:d.getD ((0+(b:Int).toNat:Nat)) a2.I=d.getD b (0,[]):=nP;refine a6 [(9,f)] a bw ?_;rw[x];refine g.aF (z _ B) [] a ?_;cases t:j (d.getD b (0,[]))with
  |true=>
   refine a6 [(16,f)] a E (g.aX (bW.mk [0] a ?_ a a a h6));simp[s' (q:=d.take A) (I:=(0,[])) y (by rw[m b i];exact t) k]
  |false=>
   refine a6 [(16,l)] a bK (g.aA (b+1) a E E ⟨i,λe p=>?_⟩ y);by_cases u:e=b
   .rw[u,m b i];exact t
   exact k e y
 refine a6 [(9,l)] a bV (g.aC ?_);refine aZ a v (g.aS [0] a ?_ h6);simp[ta (q:=d.take A) (I:=(0,[])) (λe p=>k e y)]
def ob(a:m b')(b d:Nat):m b':=(a.take b).eraseIdx d++(0,[])::a.drop b
def SZ{d}(b:A<=c d)(a:e<A):c (ob d A e)=c d:=by unfold ob;rw[dn,FZ bV];simp;omega
def Uh(d)(A e)(Q:A<=c d)(z:e<A)(O:c d<=4000000):
  Y r 141 [xM (c d) A,S e,S ((e:Int)+1)] [qc d] (xM (c d) (A-1)) [.h 70 2 (c d) (a2.fn (ob d A e))]:=by
 refine Y.K func141 rfl λR=>?_;refine bQ [(16,l),(1000006,f)] a EP ?_;have C:bT A (h (e:Int))-bT 0 n+(bT A n-bT 0 (h ((e:Int)+1)))=A-1:=EP;rw[C];refine g.region ?_;refine gJ [] 4 a v (g.aO (a0.hX bd a a a a a a a a a y y y) a a ?_);refine g.aO (a0.eW bd a a a a a a y) a a ?_;refine bQ [(1000007,f)] a v (g.gN 0 (a2.fn (ob d A e)) a (λ_ _=>rfl) (λN idx q u t M=>?_) ?_)
 .have J:bT A (h (e:Int))-bT 0 n=e:=wF;have I:bT 0 (h ((e:Int)+1))=e+1:=bK;have D:bT A n=A:=rfl;simp only[c5];rw[J,I,D];have B:(ob d A e).getD idx (0,[])=if idx<e then d.getD idx (0,[])else if idx<A-1 then d.getD (idx+1) (0,[])else if idx<A then(0,[])else d.getD idx (0,[]):=by
   unfold ob;have x:c ((d.take A).eraseIdx e)=A-1:=Ns;simp only[al];by_cases p:idx<A-1
   .rw[kA y,List.getElem?_eraseIdx];by_cases i:idx<e
    .rw[br i,br i,io,br y]
    rw[bm i,bm i,br p,io,br y]
   rw[hq y,x];by_cases F:idx=A-1
   .subst F;rw[bm y,bm y,br y];simp
   obtain⟨k,rfl⟩:∃k,idx=A+k:=⟨idx-A,by omega⟩
   rw[bm y,bm y,bm y,show A+k-(A-1)=k+1 by omega];simp
  have b:(a2.a8 ((ob d A e).getD idx (0,[])))[u]?=h t:=M;rw[B]at b;by_cases p:idx=A-1
  .subst p;rw[bm y,bm y,br y]at b;have E:nK (0+(A-1)) (0+(A-1)+(A-(A-1))) nv.zero (qK e (0+(e+1)) (A-(e+1)) (a2.fn d)) (A-1)=nv.zero:=br y;rw[E]
   match u,b with
   |0,b=>exact⟨_,rfl,λK j=>by cases b;exact j⟩
   |1,b=>exact⟨_,rfl,λK j=>by cases b;exact J6 (o:=.S f 0 0 λ_=>[]) rfl ⟨rfl,rfl⟩ j⟩
  refine⟨t,?_,λ_ j=>j⟩;rw[<-b];congr 1;unfold nK qK;rw[bm y];have m:∀w,a2.fn d w=a2.a8 (d.getD w (0,[])):=λ_=>rfl;by_cases i:idx<e
  .rw[bm y,br i,m]
  rw[bm i];by_cases s:idx<A-1
  .rw[br y,br s,m,show 0+(e+1)+(idx-e)=idx+1 by omega]
  rw[bm y,bm s,bm y,m]
 exact Pv
end
def ks(a:dT):Nat->dT
 |0=>a
 |b+1=>js (ks a b)
def Mf{Q}:∀{w:Nat},w<=c Q.2.2->(ks Q w).1.2=Q.1.2/\(ks Q w).2.1=Q.2.1/\(ks Q w).2.2=Q.2.2.drop w/\(ks Q w).1.1=(Q.2.2.take w).foldl (λd b=>fg b Q.2.1 d) Q.1.1
 |0,_=>⟨rfl,rfl,rfl,rfl⟩
 |w+1,o=>by
  obtain⟨k,j,m,e⟩:=Mf (Q:=Q) (w:=w) y;have i:Q.2.2.drop w=Q.2.2.getD w 0::Q.2.2.drop (w+1):=by rw[RM y];simp[bI (show w<c Q.2.2 by omega)]
  have g:ks Q (w+1)=((fg (Q.2.2.getD w 0) Q.2.1 (ks Q w).1.1,(ks Q w).1.2),(ks Q w).2.1,Q.2.2.drop (w+1)):=by rw[show ks Q (w+1)=js (ks Q w)from a];unfold js;simp_all
  rw[g,ie y 0,uy,<-e];simp_all
def nZ.hY{i}{d}(b:nZ i d):∀a,nZ i (ks d a)
 |0=>b
 |a+1=>(nZ.hY b a).step
def Lm{cr}{bS}:∀{ab:m b'}{e:Nat},(ab.Pairwise λa b=>a.1<b.1)->(∀a∈ab,a.2≠[])->e<c ab->(ab.getD e (0,[])).1=bS ->
  gF (λa:b'=>a.1==bS) ab=e/\fg bS cr ab=if(hB (ab.getD e (0,[])) cr).2.length=0 then ab.eraseIdx e else ab.set e (hB (ab.getD e (0,[])) cr)
 |a::ab,0,j,i,_,d=>by
  obtain⟨o,r⟩:=iE.1 j;simp only[List.getD_cons_zero]at d⊢;have k:ab.map (iT bS cr)=ab:=by rw[wS (g:=id) λb g=>by have:=o b g;exact bm y,List.map_id]
  refine⟨by simp[gF,List.findIdx?_cons,d],?_⟩;unfold fg;rw[mi,k,show iT bS cr a=hB a cr from br d,sA,so.2 λb g=>by simpa using i b (m_ _ g)];split<;>split<;>simp_all
 |a::ab,e+1,j,i,p,d=>by
  obtain⟨o,r⟩:=iE.1 j;simp only[List.getD_cons_succ,fl]at d p⊢;obtain⟨k1,u⟩:=Lm (cr:=cr) (e:=e) r (λb g=>i b (m_ _ g)) y d;have t:ab.getD e (0,[])∈ab:=M;have s:a.1≠bS:=by have:=o _ t;omega
  have w:=i a jc;refine⟨?_,?_⟩
  .unfold gF at k1⊢;rw[List.findIdx?_cons];have:(a.1==bS)=l:=bw;rw[this];cases q:ab.findIdx? λa=>a.1==bS with
   |none=>rw[q]at k1;exact bK
   |some v=>rw[q]at k1;exact bw
  have k:fg bS cr (a::ab)=a::fg bS cr ab:=by unfold fg;rw[mi,show iT bS cr a=a from bm s,sA,br bw]
  rw[k,u];split<;>simp
end R1
end Go.AM
