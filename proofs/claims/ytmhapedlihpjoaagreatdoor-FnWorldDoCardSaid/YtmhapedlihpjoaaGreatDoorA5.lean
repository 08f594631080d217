/- Part 5. No condition. -/
import Derived.Test.YtmhapedlihpjoaaGreatDoorA4
set_option linter.all false
set_option maxHeartbeats 8000000
open Go.Proofs
open Go.Proofs.Tryz
open List renaming length → c, range → aC, getD_eq_getElem?_getD → al, all_eq_true → aZ
open Go renaming Value → aa, TypeId → av, World → au, Frame → aK, execOp → ac, Operand → aA, Program → aI, Goroutine → ak, Oper → ap
open Option renaming some → h, none → q
open Bool renaming true → f, false → m
open Nat renaming beq → af, ble → ay
open Go.Op renaming bytesLess → aW, equalIn → aQ
open Go.Proofs.Tryz renaming prog → V
namespace Go.AM
variable {k A:Nat}{i:Int}{d j e w:Nat}{W:av}{H:aa->(Nat->Option Obj)->Prop}{L:Array Bool}{bE:Mem}{D:Nat}{P:aI}{br:ak->a6->Prop}{s:Code}{C:ak}{t:ap}{b:a6}{o:av}{ab:aa}{l X:aA}{α:Type}{η:aA->z}{ι:Type}{n:p an}{F:bJ}{all:p ap}{du:Array av}{cap:p N}{cV:p z}{lb:Nat->Option Obj}{ah:p aK}{bh:p (Nat×Bool)}{T:Nat->p N}{cR:aA}{gs:Array ak}{aP:p Nat}{ck:p Prop}{off:Nat}{op:BinOp}{aD:Array ap}{Y:p Prop}{bt:p ap}{az:a6}{ty:av}{val:Nat->Nat->aa}{B:p aa}{bi:au}{ag:Array aA}{ao dh:p an}{res:ι->z}{aM:ι->p an}
variable {CT:p (Nat×bL)}{ar:p il}{bf:fw}{ad:p (Nat×bx)}{a5:bx}
namespace R1
abbrev Aw(d:p c6):Prop:=d.Pairwise λa b=>aW a.1 b.1=f
def aeG{o}(g:dP o=f):Aw o:=by simp only[dP,cp]at g;have j:=fN.1 g.1;rw[Aw,nb];intro e l b d a;rw[pj b,pj d];refine LO (o:=o) (e:=l) (λn k i=>?_) e a;have:=j n y;simp[i1,cp,jK,gW]at this;grind
def zA{o}:dP o=f↔(∀d∈o,fQ d.1=f/\fJ d.2=f)/\Aw o/\o.Pairwise (λk l=>lc k.1 l.1=m)/\c o<=6:=by
 constructor
 .intro b;have u:=aeG b;simp only[dP,cp,bA]at b;have i:=fN.1 b.1;refine⟨λd p=>?_,u,?_,b.2⟩
  .obtain⟨e,a,rfl⟩:=hl p;have:=i e a;exact Oh
  rw[nb];intro e s a g j;have:=i s g;exact Oh
 rintro⟨t,v,w,r⟩;simp only[dP,cp,bA];refine⟨fN.2 λe a=>?_,r⟩;have n:=t _ (wZ a);rw[pj a]at n;simp only[i1,cp,jK,gW];grind[List.pairwise_iff_getElem,pj]
end R1
def bl.le{t:aj P}{u}{args}{oL:ι->z}(v:bl t u args n res aM){e:ι->p Prop}(x:∀a,kt (res a) (oL a)=h (e a))(y:∀a,U (e a)):bl t u args n oL aM:=
 ⟨v.1,λA B o k w g j=>v.2 A B o k w g λa i C r l b d s=>j a i C r l (pu (x a) (y a) b) d s⟩
def bl.aq{p:aj P}{r}{args}{res}{aM}(s:bl (ι:=ι) p r args n (λ_=>res) (λ_=>aM)):Z p r args n res aM:=
 ⟨s.1,λu B k i t d g=>s.2 u B k i t d λ_ e v l j a b o=>g e v l j a b o⟩
namespace R1
variable {r:aj V}
abbrev ur(e:c1 α)(d:p α):Type:={a:Nat->p N // ∀b,b<c d->a b=e.fn d b}
structure dQ(b:cB):Prop where
 a1:c b.1<=4000000
 bs:∀a1∈b.1,c a1.2<=4000000
 a4:c b.2.1<=4000000
 bB:lv b
 aN:c b.2.2<=4000000
def VQ(b)(d)(i:dQ b)(n:d.1=1):
  bl (ι:={e:Nat->p N // ∀k,k<c (b.1.filter λj=>!(j.1==d.2.1))->e k=a2.fn (b.1.filter λj=>!(j.1==d.2.1)) k}) r 77 [b' b,eF d] []
   (λ_=>.q (.agg [dF 0 (c b.1) (c (b.1.filter λj=>!(j.1==d.2.1))),dF 1 (c b.2.1) (c b.2.1),.c (hZ b.2.2)])) (λe=>[.h 89 2 (c b.1) e.1,.h 96 2 (c b.2.1) (bk.fn b.2.1)]):=by refine bl.bG be func77 rfl rfl rfl λo=>?_;refine a0 a v (g.aF (pg b i.a1 i.bs i.a4 i.bB i.aN) [] a (a0 a v (g.aF (Um d n) [] a (a0 a v (g.cL (Ut b d i.a1) a a a a E a ?_)))));rintro⟨e,l⟩;refine a0 a v (g.bj ⟨e,l⟩ [3,4] ?_ fO);simp
def VP(b)(d)(l:dQ b)(o:d.1=1):Z r 77 [b' b,eF d] [] (b' (b.1.filter λa=>!(a.1==d.2.1),b.2.1,b.2.2)) []:=by
 have n:c (b.1.filter λa=>!(a.1==d.2.1))<=c b.1:=kI _ _;have e:=VQ (r:=r) b d l o;have g:=bl.bQ (aM:=λT:ur a2 (b.1.filter λa=>!(a.1==d.2.1))=>[.h 89 2 (c b.1) T.1]) (W:=96) (i:=2) (k:=λ_=>c b.2.1) (T:=λ_=>bk.fn b.2.1) e bp (λ_=>?_) bp (λ_=>gX _);have j:=bl.bQ (aM:=λ_=>[]) (W:=89) (i:=2) (k:=λ_=>c b.1) (T:=λT:ur a2 (b.1.filter λa=>!(a.1==d.2.1))=>T.1) g bp (λ_=>?_) bp (λ_=>bB _);refine(j.le (oL:=λ_=>b' (b.1.filter λa=>!(a.1==d.2.1),b.2.1,b.2.2)) bp (λT=>?_)).aq
 .simp only[U.Z,U,a_,bb];exact⟨T.2,bu.same,bu.same⟩
 .simpa using n
 simp
def V0(b)(d)(e:dQ b)(k:d.1≠1)(i:d.1≠2)(l:d.1≠3)(j:d.1≠4):
  bl (ι:=Unit) r 77 [b' b,eF d] [] (λ_=>.q (.agg [dF 0 (c b.1) (c b.1),dF 1 (c b.2.1) (c b.2.1),.c (hZ b.2.2)])) (λ_=>[.h 89 2 (c b.1) (a2.fn b.1),.h 96 2 (c b.2.1) (bk.fn b.2.1)]):=by refine bl.bG be func77 rfl rfl rfl λn=>?_;refine a0 a v (g.aF (pg b e.a1 e.bs e.a4 e.bB e.aN) [] a (a0 a v (g.aF (Uo d k i l j) [] a (a0 a v (g.cL (Wq (mW b d) a (.ptr 5 0)).tocH a a a a E a ?_)))));intro _;refine a0 a v (g.bj () [3,4] ?_ fO);simp
def VT(b)(d:dW)(e:dQ b)(i:d.1=2)(j:d.2.1<0∨d.2.1>c b.2.2):
  bl (ι:=Unit) r 77 [b' b,eF d] [] (λ_=>.q (.agg [dF 0 (c b.1) (c b.1),dF 1 (c b.2.1) (c b.2.1),.c (hZ b.2.2)])) (λ_=>[.h 89 2 (c b.1) (a2.fn b.1),.h 96 2 (c b.2.1) (bk.fn b.2.1)]):=by refine bl.bG be func77 rfl rfl rfl λk=>?_;refine a0 a v (g.aF (pg b e.a1 e.bs e.a4 e.bB e.aN) [] a (a0 a v (g.aF (IH d i) [] a (a0 a v (g.cL (TL b d j).tocH a a a a E a ?_)))));intro _;refine a0 a v (g.bj () [3,4] ?_ fO);simp
def Cy{b}{d}(a:bl (ι:=Unit) r 77 [b' b,eF d] [] (λ_=>.q (.agg [dF 0 (c b.1) (c b.1),dF 1 (c b.2.1) (c b.2.1),.c (hZ b.2.2)])) (λ_=>[.h 89 2 (c b.1) (a2.fn b.1),.h 96 2 (c b.2.1) (bk.fn b.2.1)])):Z r 77 [b' b,eF d] [] (b' b) []:=by
 have e:=bl.bQ (aM:=λ_:Unit=>[.h 89 2 (c b.1) (a2.fn b.1)]) (W:=96) (i:=2) (k:=λ_=>c b.2.1) (T:=λ_=>bk.fn b.2.1) a bp (λ_=>?_) bp (λ_=>gX _);have g:=bl.bQ (aM:=λ_:Unit=>[]) (W:=89) (i:=2) (k:=λ_=>c b.1) (T:=λ_=>a2.fn b.1) e bp (λ_=>?_) bp (λ_=>bB _);refine(g.le (oL:=λ_=>b' b) bp (λT=>?_)).aq
 .simp only[U.Z,U,a_,bb];exact⟨bu.same,bu.same,bu.same⟩
 .simp
 simp
def VS(b)(i:dW)(d:dQ b)(n:i.1=2)(j:Nat)(o:i.2.1=j)(p:j<=c b.2.2):
  bl (ι:=ur bk (b.2.1.filter λk=>!jv j b.2.2 k)) r 77 [b' b,eF i] []
   (λ_=>.q (.agg [dF 0 (c b.1) (c b.1),dF 1 (c b.2.1) (c (b.2.1.filter λk=>!jv j b.2.2 k)),.c (.S m 2 i.2.1.toNat (a3.fn b.2.2))])) (λe=>[.h 89 2 (c b.1) (a2.fn b.1),.h 96 2 (c b.2.1) e.1]):=by refine bl.bG be func77 rfl rfl rfl λs=>?_;refine a0 a v (g.aF (pg b d.a1 d.bs d.a4 d.bB d.aN) [] a (a0 a v (g.aF (IH i n) [] a (a0 a v (g.cL (TM b i j o p d.a4 d.aN) a a a a E a ?_)))));rintro⟨e,l⟩;refine a0 a v (g.bj ⟨e,l⟩ [3,4] ?_ fO);simp
def VR(b)(d:dW)(v:dQ b)(p:d.1=2)(k:Nat)(w:d.2.1=k)(s:k<=c b.2.2):Z r 77 [b' b,eF d] [] (b' (b.1,b.2.1.filter λa=>!jv k b.2.2 a,b.2.2.take k)) []:=by
 have n:c (b.2.1.filter λa=>!jv k b.2.2 a)<=c b.2.1:=kI _ _;have e:=VS (r:=r) b d v p k w s;have g:=bl.bQ (aM:=λ_:ur bk (b.2.1.filter λa=>!jv k b.2.2 a)=>[.h 89 2 (c b.1) (a2.fn b.1)]) (W:=96) (i:=2) (k:=λ_=>c b.2.1) (T:=λT=>T.1) e bp (λ_=>?_) bp (λ_=>gX _);have j:=bl.bQ (aM:=λ_:ur bk (b.2.1.filter λa=>!jv k b.2.2 a)=>[]) (W:=89) (i:=2) (k:=λ_=>c b.1) (T:=λ_=>a2.fn b.1) g bp (λ_=>?_) bp (λ_=>bB _);refine(j.le (oL:=λ_=>b' (b.1,b.2.1.filter λa=>!jv k b.2.2 a,b.2.2.take k)) bp (λT=>?_)).aq
 .have o:d.2.1.toNat=c (b.2.2.take k):=M;simp only[U.Z,U,a_,bb];refine⟨bu.same,T.2,o,λu t=>?_⟩;have l:u<k:=M;simp[c1.fn,gB,al,iq,l]
 .simp
 simpa using n
end R1
def dL.b_:dL->Nat
 |.nil=>0
 |.ax a _ _ b=>a.b_+b.b_+1
namespace R1
variable {r:aj V}
def UB(o)(k):Z r 198 [ax (eK o),S k] [] (S (o.find k)) []:=by
 refine Z.K func198 rfl λt=>?_;refine a0 a v (g.loop (λd:dL=>d.find k=o.find k) (λd=>[(0,ax (eK d)),(1,S k)]) (λ_=>[]) (λd=>d.b_) o a (.cons a (eG a E)) a ?_);intro d b;cases d with
 |nil=>
  refine a0 a v (g.aO (rZ a underlying244 a a a) a a ?_);refine a7 [(7,m),(15,m)] a E (g.bu a a ?_);refine a0 a v (g.aO (rZ a underlying244 a a a) a a ?_);refine a0 a v (g.aw a ?_);exact bH
 |ax i e l j=>
  have s:(dL.ax i e l j).find k=if k=e then l else if k<e then i.find k else j.find k:=rfl;rw[s]at b;refine a0 a v (g.aO (tE a underlying244 a a a) a a ?_);by_cases p:k=e
  .subst p;rw[bs a]at b;refine a7 [(7,f),(15,m)] a E (g.bu a a ?_);refine a0 a v (g.aO (tE a underlying244 a a a) a a ?_);refine a0 a v (g.aw a ?_);exact bw
  rw[bm p]at b;by_cases n:k<e
  .rw[bs n]at b;cases i<;>exact a7 [(7,f),(15,f),(22,f)] rfl bw ⟨_,b,by simp only[dL.b_];omega,.cons rfl (eG rfl E),rfl⟩
  rw[bm n]at b;cases j<;>exact a7 [(7,f),(15,f),(22,m)] rfl bw ⟨_,b,by simp only[dL.b_];omega,.cons rfl (eG rfl E),rfl⟩
end R1
namespace R1
section
variable {r:aj V}
def IP(b)(d)(e:dQ b)(k:d.1=4)(i:Nat->p N)(j:Z r 157 [aH 6 0,iP (l4 d)] (oP b d (a3.fn b.2.2)) (.Q []) (oP b d i)):
  bl (ι:=Unit) r 77 [b' b,eF d] [] (λ_=>.q (.agg [dF 0 (c b.1) (c b.1),dF 1 (c b.2.1) (c b.2.1),dF 2 (c b.2.2) (c b.2.2)])) (λ_=>[.h 89 2 (c b.1) (a2.fn b.1),.h 96 2 (c b.2.1) (bk.fn b.2.1),.h 146 2 (c b.2.2) i]):=by refine bl.bG be func77 rfl rfl rfl λl=>?_;refine a0 a v (g.aF (I' b e.a1 e.bs e.a4 e.bB e.aN) [] a (a0 a v (g.aF (Un d k) [] a (a0 a v (g.cL j.tocH a a a a E a ?_)))));intro _;refine a0 a v (g.bj () [3,4,5] ?_ fO);simp
def IQ(b)(d)(T:Nat->p N)(e)(g:c e=c b.2.2)(o:bu (c b.2.2) T (a3.fn e))(j:bl (ι:=Unit) r 77 [b' b,eF d] [] (λ_=>.q (.agg [dF 0 (c b.1) (c b.1),dF 1 (c b.2.1) (c b.2.1),dF 2 (c b.2.2) (c b.2.2)])) (λ_=>[.h 89 2 (c b.1) (a2.fn b.1),.h 96 2 (c b.2.1) (bk.fn b.2.1),.h 146 2 (c b.2.2) T])):
  Z r 77 [b' b,eF d] [] (b' (b.1,b.2.1,e)) []:=by
 have s:=bl.bQ (aM:=λ_:Unit=>[.h 89 2 (c b.1) (a2.fn b.1),.h 96 2 (c b.2.1) (bk.fn b.2.1)]) (W:=146) (i:=2) (k:=λ_=>c b.2.2) (T:=λ_=>T) j bp (λ_=>?_) bp (λ_=>gX _);have l:=bl.bQ (aM:=λ_:Unit=>[.h 89 2 (c b.1) (a2.fn b.1)]) (W:=96) (i:=2) (k:=λ_=>c b.2.1) (T:=λ_=>bk.fn b.2.1) s bp (λ_=>?_) bp (λ_=>gX _);have n:=bl.bQ (aM:=λ_:Unit=>[]) (W:=89) (i:=2) (k:=λ_=>c b.1) (T:=λ_=>a2.fn b.1) l bp (λ_=>?_) bp (λ_=>bB _);refine(n.le (oL:=λ_=>b' (b.1,b.2.1,e)) bp (λ_=>?_)).aq
 .simp only[U.Z,U,a_,bb];refine⟨bu.same,bu.same,g.symm,?_⟩;intro t a;exact o t (by first|exact a|(rw[<-g];exact a))
 .simp
 .simp
 simp
def VZ(b)(a:dW)(d:dQ b)(j:a.1=4)(e:0<=a.2.1)(g:a.2.1<c b.2.2)(i:a8 .i64 (3-ly b a)):
  Z r 77 [b' b,eF a] [] (b' (b.1,b.2.1,b.2.2.set (0+a.2.1.toNat) (3-ly b a,(b.2.2.getD (0+a.2.1.toNat) a3.I).2))) []:=
 IQ b a _ _ E (a3.cW b.2.2 (0+a.2.1.toNat) (3-ly b a,(b.2.2.getD (0+a.2.1.toNat) a3.I).2) (c b.2.2) (bB _)) (IP b a d j _ (UE b a e g i))
def VY(b)(d:dW)(e:dQ b)(i:d.1=4)(g:¬(0<=d.2.1/\d.2.1<c b.2.2)):Z r 77 [b' b,eF d] [] (b' b) []:=
 IQ b d _ b.2.2 a bu.same (IP b d e i _ (UD b d g))
abbrev Ec(a:cB)(j:dW)(e:Nat)(g b d:Nat)(i:p aa):p an:=tI a j [.h 89 2 (c a.1) (gl a.1 e (.slice (h ⟨g,0,q⟩) d b)),.h 96 2 (c a.2.1) (bk.fn a.2.1),.J (cn 131 2 (.row g b) d i)] (dF 3 (c a.1) (c a.1)) (dF 4 (c a.2.1) (c a.2.1)) (.c (hZ a.2.2))
def gQ(a:p cY)(b:Nat)(d:bD):p cY:=a.set b ((a.getD b (0,[])).1,d)
def Jv{ag}{o}{d}(l:ej 2 (c ag) (bI.fn ag) d)(e:A<c ag)(k:na B [.c (.V o)]):ej 2 (c ag) (bI.fn (gQ ag A o)) (d.take (A*2+1)++B++d.drop (A*2+1+c B)):=by
 refine ej.fi l A 1 e k E (λr p i=>?_) a λg n b=>?_
 .simp[c1.fn,gB,gQ,al,o6,qc i]
 have j:bI.fn (gQ ag A o) A=[.int .i64 (ag.getD A (0,[])).1,.V o]:=by simp[c1.fn,gB,gQ,al,o6,e];rfl
 rw[j]at b;rcases g with _|_|g
 .simp at b;subst b;exact .inr ⟨by omega,a⟩
 .grind
 simp at b
def TQ(b)(j:dW)(V:c b.1<=4000000)(d s e n:Nat)(ag)(O:(b.1.getD d (0,[])).2=ag)(T:d<c b.1)(K:(b.1.getD d (0,[])).1=j.2.1)(M:∀x,x<c b.1->x≠d->(b.1.getD x (0,[])).1≠j.2.1)(N:j.2.2.1=n)(R:n<c ag)(W:c ag<=4000000)(C)(J:ej 2 (c ag) (bI.fn ag) C):
  bl (ι:={z:p aa // ej 2 (c ag) (bI.fn (gQ ag n j.2.2.2)) z}) r 156 [aH 6 0,iP (l4 j)] (Ec b j d s e (c ag) C) (λ_=>.Q []) (λz=>Ec b j d s e (c ag) z.1):=by
 refine bl.bR func156 rfl rfl rfl (g.aW ?_);refine a0 a v (g.aL 7 (λk:Nat×p aa=>k.1<=c b.1/\(k.1<=d->k.2=C)/\(d<k.1->ej 2 (c ag) (bI.fn (gQ ag n j.2.2.2)) k.2)) (λk=>[(0,aH 6 0),(1,iP (l4 j)),(8,.q (.aq (dF 3 (c b.1) (c b.1)))),(9,S (c b.1)),(10,S k.1)]) (λk=>Ec b j d s e (c ag) k.2) (λk=>c b.1-k.1) (0,C) a E a E a ⟨by omega,λ_=>rfl,λF=>by omega⟩ ?_);rintro⟨i,l⟩ ⟨u,D,A⟩;simp only at u D A;have I:0+(i:Int).toNat=i:=y;by_cases F:i<c b.1
 .by_cases o:i=d
  .subst o;obtain rfl:=D (bB _);refine gR [(11,f)] 12 a Qg (g.aO (a1.e9 be (ai:=.agg [.c (.int .i64 j.2.1),.c (.val (.slice (h ⟨s,0,q⟩) (c ag) e))]) a a a a a ?_ ?_) a a ?_)
   .show h (E1.agg [.c (.int .i64 (b.1.getD (0+(i:Int).toNat) (0,[])).1),.c (nA b.1 i (.slice (h ⟨s,0,q⟩) (c ag) e) (0+(i:Int).toNat))])=_;rw[I,K,nA,bs a]
   .show 0+(i:Int).toNat<_;omega
   refine a7 [(19,f),(24,f),(31,f)] a ?_ ?_
   .simp only[U,a8,bA,gh,bb,a_];exact fv
   have Y:=J.len;have w:0+j.2.2.1.toNat*2+1=n*2+1:=y;refine g.eP be 5 a a a a a a a ?_ a a λB t=>?_
   .show 0+j.2.2.1.toNat*2+1+1<=c l;omega
   have X:=Jv J R t;refine a0 a FM (g.aB (i+1,l.take (n*2+1)++B++l.drop (n*2+1+c B)) a E ?_ ?_ ?_)
   .simp only[U.Z,U,bu.same,a_,bb];show cn 131 2 _ _ (List.take (0+j.2.2.1.toNat*2+1) l++B++List.drop (0+j.2.2.1.toNat*2+1+c B) l)=_;rw[w]
   .grind
   grind
  have Q:=M i F o;refine gR [(11,f)] 12 a Qg (g.aO (a1.e9 be (ai:=.agg [.c (.int .i64 (b.1.getD i (0,[])).1),.c (.S m 2 (b.1.getD i (0,[])).2.length (bI.fn (b.1.getD i (0,[])).2))]) a a a a a ?_ ?_) a a ?_)
  .show h (E1.agg [.c (.int .i64 (b.1.getD (0+(i:Int).toNat) (0,[])).1),.c (nA b.1 d (.slice (h ⟨s,0,q⟩) (c ag) e) (0+(i:Int).toNat))])=_;rw[I,nA,bm o]
  .show 0+(i:Int).toNat<_;omega
  refine a7 [(19,m),(24,m),(31,m)] a ?_ (g.aB (i+1,l) a ?_ ?_ ?_ ?_)
  .simp only[U,a8,eY,bb,a_];exact⟨by omega,Q⟩
  .simp
  .simp
  .grind
  grind
 obtain rfl:i=c b.1:=y;refine a7 [(11,m)] a E (g.aC ?_);exact a0 a v ⟨⟨l,A T⟩,.inr a,a,a,_,_,_,a,a,a,v⟩
structure sl(b:cB)(d:dW)(i0 A:Nat):Prop where
 a_:i0<c b.1
 c5:(b.1.getD i0 (0,[])).1=d.2.1
 b4:∀w,w<c b.1->w≠i0->(b.1.getD w (0,[])).1≠d.2.1
 b6:d.2.2.1=A
 gy:A<(b.1.getD i0 (0,[])).2.length
def Ly(ag)(A)(o):c (gQ ag A o)=c ag:=by simp[gQ]
def vi{a:cB}{i0}(b:i0<c a.1):a.1.getD i0 (0,[])∈a.1:=M
set_option maxRecDepth 20000 in
def VV(b)(d)(j:dQ b)(t:d.1=3)(i0 A)(i:sl b d i0 A):
  bl (ι:={k:fl×p aa // ej 2 (b.1.getD i0 (0,[])).2.length (bI.fn (gQ (b.1.getD i0 (0,[])).2 A d.2.2.2)) k.2}) r 77 [b' b,eF d] []
   (λ_=>.q (.agg [dF 0 (c b.1) (c b.1),dF 1 (c b.2.1) (c b.2.1),.c (hZ b.2.2)]))
   (λk=>[.h 89 2 (c b.1) (gl b.1 i0 (c0 k.1.1 (b.1.getD i0 (0,[])).2.length)),.h 96 2 (c b.2.1) (bk.fn b.2.1),.J (cn 131 2 k.1.1 (b.1.getD i0 (0,[])).2.length k.1.2)]):=by have u:=i.gy;have s:=j.bs _ (vi i.a_);refine bl.bG be func77 rfl rfl rfl λC=>?_;refine a0 a v (g.a' (Xs b i0 i.a_ y j.a1 j.bs j.a4 j.bB j.aN) [] a bp ?_);rintro⟨⟨n,x⟩,B⟩;refine g.fC (cn.len (d:=5) a) λo=>?_;obtain⟨l,e,rfl⟩:=o.2.2.1 y;refine a0 a v (g.aF (II d t) [] a (a0 a v (g.cL (TQ b d j.a1 i0 l e A _ a i.a_ i.c5 i.b4 i.b6 u s x B) a a a a E a ?_)));rintro⟨z,w⟩;refine a0 a v (g.bj ⟨(.row l e,z),w⟩ [3,4,5] ?_ fO);simp
abbrev g6(b:cB)(d:dW)(a e:Nat):cB:=(b.1.set a ((b.1.getD a (0,[])).1,gQ (b.1.getD a (0,[])).2 e d.2.2.2),b.2.1,b.2.2)
def T9{o}{args}(b)(d)(i0 A)(x:i0<c b.1)(t:bl (ι:={g:fl×p aa // ej 2 (b.1.getD i0 (0,[])).2.length (bI.fn (gQ (b.1.getD i0 (0,[])).2 A d.2.2.2)) g.2}) r o args []
   (λ_=>.q (.agg [dF 0 (c b.1) (c b.1),dF 1 (c b.2.1) (c b.2.1),.c (hZ b.2.2)]))
   (λg=>[.h 89 2 (c b.1) (gl b.1 i0 (c0 g.1.1 (b.1.getD i0 (0,[])).2.length)),.h 96 2 (c b.2.1) (bk.fn b.2.1),.J (cn 131 2 g.1.1 (b.1.getD i0 (0,[])).2.length g.1.2)])):
  Z r o args [] (b' (g6 b d i0 A)) []:=by
 generalize e:b.1.getD i0 (0,[])=j at *;have z:∀l,l≠i0->a2.fn (g6 b d i0 A).1 l=a2.fn b.1 l:=λl n=>by simp[c1.fn,gB,al,o6,qc n]
 have C:a2.fn (g6 b d i0 A).1 i0=[.int .i64 j.1,.S m 2 (c j.2) (bI.fn (gQ j.2 A d.2.2.2))]:=by have:(g6 b d i0 A).1.getD i0 a2.I=(j.1,gQ j.2 A d.2.2.2):=M;show a2.a8 ((g6 b d i0 A).1.getD i0 a2.I)=_;rw[this];show[N.int .i64 j.1,N.S m 2 (c (gQ j.2 A d.2.2.2)) (bI.fn (gQ j.2 A d.2.2.2))]=_;rw[Ly]
 have y:=bl.fA (aM:=λg:{g:fl×p aa // ej 2 (c j.2) (bI.fn (gQ j.2 A d.2.2.2)) g.2}=>[.h 89 2 (c b.1) (gl b.1 i0 (c0 g.1.1 (c j.2))),.h 96 2 (c b.2.1) (bk.fn b.2.1)]) (fa:=λ_=>[.h 89 2 (c b.1) (a2.fn (g6 b d i0 A).1),.h 96 2 (c b.2.1) (bk.fn b.2.1)]) (W:=131) (i:=2) (k:=c j.2) (bP:=λg=>g.1.1) (ag:=λg=>g.1.2) t (λg=>g.2) 0 bp bp bp bp (λ_=>gX _)
  (λg l n=>by exact bH)
  (λg l n s B I=>by
   by_cases u:l=i0
   .subst u;rw[C]at I;have:gl b.1 l (c0 g.1.1 (c j.2)) l=[.int .i64 j.1,.val (c0 g.1.1 (c j.2))]:=NP;rw[this];rcases s with _|_|s
    .simp at I;subst I;exact⟨_,a,.inl a⟩
    .exact Q6
    exact bH
   .rw[z l u]at I;have:gl b.1 i0 (c0 g.1.1 (c j.2)) l=a2.fn b.1 l:=E3
    rw[this];exact⟨B,I,.inl a⟩)
 have v:=bl.bQ (aM:=λ_=>[.h 89 2 (c b.1) (a2.fn (g6 b d i0 A).1)]) (W:=96) (i:=2) (k:=λ_=>c b.2.1) (T:=λ_=>bk.fn b.2.1) y bp (λ_=>?_) bp (λ_=>gX _);have w:=bl.bQ (aM:=λ_=>[]) (W:=89) (i:=2) (k:=λ_=>c b.1) (T:=λ_=>a2.fn (g6 b d i0 A).1) v bp (λ_=>?_) bp (λ_=>bB _);refine(w.le (oL:=λ_=>b' (g6 b d i0 A)) bp (λ_=>?_)).aq
 .exact Pj
 .simp
 simp
set_option maxRecDepth 20000 in
def VU(b)(d)(e:dQ b)(g:d.1=3)(i0 A)(a:sl b d i0 A):Z r 77 [b' b,eF d] [] (b' (g6 b d i0 A)) []:=
 T9 b d i0 A a.a_ (VV b d e g i0 A a)
def pY(d:cB)(b:dW):Prop:=∀a,a<c d.1->¬((d.1.getD a (0,[])).1=b.2.1/\0<=b.2.2.1/\b.2.2.1<(d.1.getD a (0,[])).2.length)
def TR(b)(d)(k:dQ b)(t:pY b d):Z r 156 [aH 5 0,iP (l4 d)] (mW b d) (.Q []) (mW b d):=by
 have z:=k.a1;refine bl.toZ (bl.bR (ι:=Unit) (res:=λ_=>.Q []) (ao:=λ_=>mW b d) func156 rfl rfl rfl (g.aW ?_));refine a0 a v (g.aL 6 (λe=>e<=c b.1) (λe:Nat=>[(0,aH 5 0),(1,iP (l4 d)),(8,.q (.aq (dF 3 (c b.1) (c b.1)))),(9,S (c b.1)),(10,S e)]) (λ_=>mW b d) (λe=>c b.1-e) 0 a E a E a y ?_);intro e o;by_cases l:e<c b.1
 .have s:=t e l;have u:=k.bs _ (vi l);have p:0+(e:Int).toNat=e:=y;have j:b.1.getD (0+(e:Int).toNat) a2.I=b.1.getD e (0,[]):=by rw[p];rfl
  generalize b.1.getD e (0,[])=n at *;by_cases x:n.1=d.2.1
  .by_cases w:0<=d.2.2.1
   .have i:¬d.2.2.1<c n.2:=λi=>s ⟨x,w,i⟩;refine a7 [(11,f),(19,f),(24,f),(31,m)] a Qm (g.aB (e+1) a E E sf ?_);omega
   refine a7 [(11,f),(19,f),(24,m),(31,m)] a Qm (g.aB (e+1) a E E sf ?_);omega
  refine a7 [(11,f),(19,m),(24,m),(31,m)] a ?_ (g.aB (e+1) a ?_ ?_ ?_ ?_)
  .simp only[U,a8,j,eY,bA,dr,bb,a_];and_intros<;>first|exact x|omega
  .simp
  .simp
  .exact sf
  omega
 obtain rfl:e=c b.1:=y;refine a7 [(11,m)] a E (g.aC ?_);exact Q2
def VX(b)(d)(e:dQ b)(j:d.1=3)(i:pY b d):
  bl (ι:=Unit) r 77 [b' b,eF d] [] (λ_=>.q (.agg [dF 0 (c b.1) (c b.1),dF 1 (c b.2.1) (c b.2.1),.c (hZ b.2.2)])) (λ_=>[.h 89 2 (c b.1) (a2.fn b.1),.h 96 2 (c b.2.1) (bk.fn b.2.1)]):=by refine bl.bG be func77 rfl rfl rfl λk=>?_;refine a0 a v (g.aF (pg b e.a1 e.bs e.a4 e.bB e.aN) [] a (a0 a v (g.aF (II d j) [] a (a0 a v (g.cL (TR b d e i).tocH a a a a E a ?_)))));intro _;refine a0 a v (g.bj () [3,4] ?_ fO);simp
def VW(b)(d)(a:dQ b)(g:d.1=3)(e:pY b d):Z r 77 [b' b,eF d] [] (b' b) []:=Cy (VX b d a g e)
end
section
open Go.Sort (pdq bitsLen ltInt Below)
variable {r:aj V}
def j3(a:p Int):p Int:=a.mergeSort λb d=>decide (b<=d)
def qX(d):c (j3 d)=c d:=List.length_mergeSort _
def acU(d):pdq ltInt d.toArray 0 (c d) (bitsLen (c d)) f f=(j3 d).toArray:=by have a:=Go.Sort.sortInt d;unfold Go.Sort.sort at a;rw[List.size_toArray]at a;exact Array.ext' bH
theorem Th(d):sY d.toArray=aB.fn d:=by funext w;simp only[sY,c1.fn,gB,aB,al];simp
abbrev jj(b:Nat)(a:p Int):an:=.h 3 1 b (aB.fn a)
def Cz(d)(b:c d<=4000000):Z r 135 [dN (c d)] [jj (c d) d] (.Q []) [jj (c d) (j3 d)]:=by
 refine Z.K func135 rfl λe=>?_;refine cx a bH (g.aF (IO (c d) b) [] a (cx a v ?_));have j:=sM (l:=c d) (i:=22) M;have key:Z r 179 [dN (c d),S 0,S (c d),S (bitsLen (c d))] [jj (c d) d] (.Q []) [jj (c d) (j3 d)]:=by have:=WN (r:=r) (c d) b (c d) d.toArray 0 (c d) (bitsLen (c d)) y E y (bB _) y (.inl a) (l:=0) a a a (acU d).symm;grind[Th]
 exact g.aF key [0] a (cx a v sg)
def fz(b:p Int):Nat->p Int
 |0=>[]
 |a+1=>if a≠0/\b.getD a 0=b.getD (a-1) 0 then fz b a else fz b a++[b.getD a 0]
def hO(a:p Int):p Int:=fz a (c a)
def w'(d):∀a,c (fz d a)<=a
 |0=>bB _
 |a+1=>by have:=w' d a;simp[fz];grind
def uK{d}:∀{b:Nat},b<=c d->(∀a,1<=a->a<b->d.getD a 0≠d.getD (a-1) 0)->fz d b=d.take b
 |0,_,_=>by simp[fz]
 |b+1,i,g=>by rw[fz,bm,uK y λa e j=>g a e y,ih y 0];grind
structure Ry(d:p Int)(th:Nat)(rV:Nat)(nP:p Int):Prop where
 ji:1<=rV
 fG:th+rV<=c d
 len:c nP=c d
 lt:c (fz d (th+rV))<th+rV
 done:nP.take (c (fz d (th+rV)))=fz d (th+rV)
 hN:∀e,th+rV<=e+1->nP.getD e 0=d.getD e 0
abbrev Aq(d:p Int):Type:={a:Nat->p N // ∀b,b<c d->a b=aB.fn d b}
def IC(d)(Z:c d<=4000000):bl (ι:=Aq (hO d)) r 136 [dN (c d)] [jj (c d) d] (λ_=>cD 0 (.S (c d) 1 0 (c (hO d)))) (λA=>[.h 3 1 (c d) A.1]):=by
 refine bl.cw func136 rfl rfl rfl λY=>?_;by_cases O:c d<2
 .have o:hO d=d:=by unfold hO;rw[uK (bB _) λb _ _=>by omega,c8]
  refine bR [(8,f)] a bw (g.bM ⟨aB.fn d,λb _=>by rw[o]⟩ (g.aS [0] a ?_ g_));simp[o]
 refine bR [(8,m)] a bw (g.cl (S2:=Unit) 0 a a (λ_=>hO d=d) (λ_=>[(0,dN (c d))]) (λ_=>[jj (c d) d]) 1 (λi:Nat=>1<=i/\i<=c d/\∀b,1<=b->b<i->d.getD b 0≠d.getD (b-1) 0) (λi=>[(0,dN (c d)),(3,S i)]) (λ_=>[jj (c d) d]) (λi=>c d-i) 1 a E a E a ⟨bB _,by omega,λb G O=>by omega⟩ ?_ ?_)
 .rintro dy i ⟨V,b2,D⟩;by_cases aa:i<c d
  .have ab:((i:Int)-1).toNat=i-1:=y;have F:∀u,d.getD u aB.I=d.getD u 0:=λ_=>rfl;by_cases n:d.getD i 0=d.getD (i-1) 0
   .refine bR [(13,f),(25,f)] a ?_ ?_
    .simp only[U,cZ,c9,ab,F,n,a8,bA,gh,bb,a_];exact fv
    have aR:=uK (d:=d) y D;have H:fz d (i+1)=d.take i:=by rw[fz,bs ⟨by omega,n⟩,aR]
    refine g.cl (S2:=p Int) 2 a a (λs=>c s=c d/\s.take (c (hO d))=hO d) (λ_=>[(0,dN (c d)),(3,S (c (hO d)))]) (λs=>[jj (c d) s]) 1 (λe:Nat×p Int=>Ry d i e.1 e.2) (λe=>[(0,dN (c d)),(3,S (c (fz d (i+e.1)))),(4,cD 0 (.S (c d) 1 i (c d-i))),(5,S e.1)]) (λe=>[jj (c d) e.2]) (λe=>c d-e.1) (1,d) a bH a E a ?_ ?_ ?_
    .exact⟨bB _,by omega,a,by grind,by grind,λ_ _=>rfl⟩
    .rintro T ⟨j,s⟩ ⟨g7,iK,jP,uW,k,t⟩;simp only at g7 iK jP uW k t;by_cases ad:i+j<c d
     .have J:((j:Int)-1).toNat=j-1:=y;have C:∀u,s.getD u aB.I=s.getD u 0:=λ_=>rfl;have B:s.getD (i+j) 0=d.getD (i+j) 0:=t _ y;have Q:s.getD (i+(j-1)) 0=d.getD (i+(j-1)) 0:=t _ y;by_cases w:d.getD (i+j) 0=d.getD (i+(j-1)) 0
      .have K:fz d (i+(j+1))=fz d (i+j):=by rw[show i+(j+1)=i+j+1 by omega,fz,bs ⟨by omega,by rw[w,show i+j-1=i+(j-1) by omega]⟩]
       refine bR [(32,f),(44,m)] a ?_ (g.aB (j+1,s) a ?_ ?_ ?_ ?_)
       .simp only[U,cZ,c9,J,C,B,Q,w,a8,bA,iG,gu,gh,bb,a_];and_intros<;>first|trivial|omega
       .exact bH
       .simp
       .exact⟨by grind,by grind,jP,by grind,by grind,λb l=>t b M⟩
       omega
      have K:fz d (i+(j+1))=fz d (i+j)++[d.getD (i+j) 0]:=by rw[show i+(j+1)=i+j+1 by omega,fz,bm];rintro⟨_,n⟩;exact w (by rw[n,show i+j-1=i+(j-1) by omega])
      refine bR [(32,f),(44,f)] a ?_ (g.aB (j+1,s.set (c (fz d (i+j))) (d.getD (i+j) 0)) a ?_ ?_ ?_ ?_)
      .simp only[U,cZ,c9,J,C,B,Q,a8,bA,jJ,eY,kh,d_,bb,a_];and_intros<;>first|exact w|omega
      .exact bH
      .have x:=aB.cW s (c (fz d (i+j))) (d.getD (i+j) 0) (c d) y;simp only[U.Z,U,cZ,c9,C,B,a_,bb];exact x
      .refine⟨by grind,by grind,by grind,by grind,?_,λb l=>?_⟩
       .simp only;rw[K,dk,show ∀R:Int,[R].length=1 fromλ_=>rfl,w6,AQ,Gb M,k,ip y];rfl
       simp only at l⊢;rw[al,kJ y,<-al];grind
      omega
     have X:i+j=c d:=y;have I:fz d (i+j)=hO d:=bH;refine bR [(32,m)] a bw (g.aC ?_);rw[I]at k;exact T s ⟨jP,k⟩ a (by simp[I]) a E
    rintro s ⟨N,z⟩;have W:c (hO d)<=c d:=w' d _;refine cx a bw (g.aO (a1.eX be a a a a a a wC) a a ?_);refine a0 a bw (g.aX ⟨⟨nR (0+bT 0 (h (c (hO d):Int))) (0+bT 0 (h (c (hO d):Int))+(bT (c d) q-bT 0 (h (c (hO d):Int)))) ef.zero (aB.fn s),λb l=>?_⟩,bW.mk [0] a ?_ a a a g_⟩)
    .have x:s[b]?=(hO d)[b]?:=M;refine(Nu wC).trans ?_;simp[c1.fn,gB,al,x]
    exact bH
   refine bR [(13,f),(25,m)] a ?_ (g.aB (i+1) a ?_ ?_ ?_ ?_)
   .simp only[U,cZ,c9,ab,F,a8,bA,eY,d_,bb,a_];and_intros<;>first|exact n|omega
   .simp
   .simp
   .grind
   omega
  obtain rfl:i=c d:=y;refine bR [(13,m)] a E (g.aC ?_);exact dy () (by unfold hO;rw[uK (bB _) D,c8]) a E a E
 rintro⟨⟩ o;refine cx a v (g.bM ⟨aB.fn d,λb _=>by rw[o]⟩ (g.aS [0] a ?_ g_));simp[o]
end
section
variable {r:aj V}
def ea(a:p m8):p Int:=a.flatMap (·.2)
def gf(a:eI):p Int:=hO (j3 (ea a.2))
def KA{d}(a:e<c d):ea (d.take (e+1))=ea (d.take e)++(d.getD e ([],[])).2:=by rw[ih a ([],[])];simp[ea]
def _root_.Go.AM.c1.hg(b:c1 α)(a j)(k)(e:k=c (a++j)):bu k (cg (c a) (b.fn a) (b.fn j)) (b.fn (a++j)):=by intro g d;simp only[cg,c1.fn,gB,al];grind
def Xf(l)(A:c l.2<=4000000)(j:c (ea l.2)<=4000000)(u:∀b,b<=c l.2->c (ea (l.2.take b))<=4000000):
  bl (ι:=Aq (gf l)) r 101 [iR l] [] (λ_=>cD 0 (.S (c (ea l.2)) 1 0 (c (gf l)))) (λd=>[.h 3 1 (c (ea l.2)) d.1]):=by
 refine bl.cw func101 rfl rfl rfl λz=>?_;refine bR [(1000002,f)] a v (g.fe 3 3 1 (aB.fn []) a ?_);refine cx a v ?_;refine g.aL 2 (λb=>b<=c l.2) (λb:Nat=>[(3,cD 1 (.S (c (ea (l.2.take b))) 1 0 (c (ea (l.2.take b))))),(7,cy.S l.2),(8,S (c l.2)),(9,S b)])
  (λb=>[.cells 96 [.c (.int .i64 l.1),.c (.S m 2 (c l.2) (cy.fn l.2))],jj (c (ea (l.2.take b))) (ea (l.2.take b))]) (λb=>c l.2-b) 0 a ?_ a ?_ a y ?_
 .simp[ea]
 .simp[bu,ea]
 intro b s;by_cases k:b<c l.2
 .have i:l.2.getD (b:Int).toNat cy.I=l.2.getD b ([],[]):=dD;have e:=KA k;have p:=u (b+1) k;rw[e,dk]at p;refine bR [(10,f)] a ?_ (g.aB (b+1) a ?_ ?_ ?_ ?_)
  .simp only[U,i,a8,show ef.bytes=8 from a,bA,bb,a_];exact fv
  .simp only[U.Z,U,i,e,dk,a_,bb];and_intros<;>first|exact bu.same|rfl|omega
  .have w:=aB.hg (ea (l.2.take b)) (l.2.getD b ([],[])).2 _ a;simp_all
  .omega
  omega
 obtain rfl:b=c l.2:=y;rw[c8];refine bR [(10,m)] a E (g.aC ?_);refine cx a v (g.aF (Cz (ea l.2) j) [1] a (cx a v ?_));have n:=IC (r:=r) (j3 (ea l.2)) (by rw[qX];exact j);rw[qX]at n;refine g.a' n [1] a bp ?_;rintro⟨d,o⟩;refine cx a v (g.bM ⟨d,o⟩ (g.aS [1] a ?_ (λx t=>absurd t E)));simp[gf]
def KB(d)(e):c (ea (d.take e))<=c (ea d):=by
 have a:ea d=ea (d.take e)++ea (d.drop e):=by unfold ea;grind[List.take_append_drop]
 grind
def HV(d):c (hO d)<=c d:=w' d _
def Xe(l)(e:c l.2<=4000000)(a:c (ea l.2)<=4000000):Z r 101 [iR l] [] (aB.S (gf l)) []:=by
 have b:=Xf (r:=r) l e a λg _=>fM (KB _ _) a;have d:=bl.bQ (aM:=λ_:Aq (gf l)=>[]) (W:=3) (i:=1) (k:=λ_=>c (ea l.2)) (T:=λT=>T.1) b bp (λ_=>?_) bp (λ_=>bB _);refine(d.le (oL:=λ_=>aB.S (gf l)) bp (λT=>?_)).aq
 .simp only[U.Z,U,a_,bb];exact T.2
 have:c (gf l)<=c (ea l.2):=Re;exact bw
def XP(b)(e)(d:d6 b=f)(p:3<=e)(i:e<=c b)(n:c b<=4000000):Z r 305 [b1 b,S e] [] (bj (pO b e)) []:=by
 refine Z.K func305 rfl λk=>?_;have l:=tj d (e-1) y;have o:=tj d (e-2) y;have t:=tj d (e-3) y;have j:((kN b ((e:Int)-1)).toNat:Int)=ds b (e-1):=ud;have I:((kN b ((e:Int)-2)).toNat:Int)=ds b (e-2):=ud;have s:((kN b ((e:Int)-3)).toNat:Int)=ds b (e-3):=ud;refine a0 a ?_ (g.aw a ?_)
 .simp only[U,a8,j,I,s];omega
 exact N9
abbrev HC:bL:=er eE db (λa b=>bj (pO a b.toNat)) λa b=>[d6 a=f,3<=b,b<=c a,c a<=4000000]
def aet:bM r 305 HC:=.bn λi b g=>by
 obtain⟨d,j,k,e⟩:=g;obtain⟨a,rfl⟩:∃a:Nat,b=a:=⟨b.toNat,by omega⟩
 exact XP i a d y y e
def TH(o)(d)(e:d6 o=f)(u:d<=c o)(z:c o<=4000000):Z r 283 [b1 o,S d] [] (S (en o d)) []:=by
 refine Z.K func283 rfl λw=>?_;have k:a9 r [(305,HC)]:=.cons aet .nil;refine ca k a v (g.cc (λb=>b<=5/\lP o d (5-b)=en o d) (λb:Nat=>[(0,b1 o),(1,S d),(5,S (3+b))]) (λ_=>[]) (λb=>5-b) 0 a E a v ⟨by omega,a⟩ ?_);rintro b ⟨x,j⟩;by_cases t:b<5
 .obtain⟨i,b2⟩:∃i,5-b=i+1:=⟨4-b,by omega⟩
  have n:d+(7-i)=d+3+b:=y;rw[b2]at j;simp[lP,n]at j;by_cases l:c o<=d+3+b
  .rw[bs l]at j;refine a' k [(7,f),(15,f)] a Rq (g.bV (bW.zero a ?_));exact bw
  rw[bm l]at j;have ai:((d:Int)+(3+(b:Int))).toNat=d+3+b:=y;cases s:pO o (d+3+b)with
  |true=>
   rw[s,bs a]at j;refine a' k [(7,f),(15,m),(22,f)] a Qf (g.bV (bW.zero a ?_));exact bw
  |false=>
   rw[s,bm E]at j;refine a' k [(7,f),(15,m),(22,m)] a Qf (g.b5 (b+1) a ?_ a v ⟨by omega,by grind⟩ y);exact bw
 have ai:en o d=min (d+8) (c o):=by rw[<-j,show 5-b=0 by omega];rfl
 have p:a8 .i64 ((min (d+8) (c o):Nat):Int):=bH;refine a' k [(7,m)] a bw (g.bu a a ?_);refine ca k a bH (g.aO (yF ((min (d+8) (c o):Nat):Int) a a a y p) a a ?_);refine ca k a v (g.aw a ?_);simp[ai]
abbrev GZ:bL:=er eE db (λa b=>S (en a b.toNat)) λa b=>[d6 a=f,0<=b,b<=c a,c a<=4000000]
def adF:bM r 283 GZ:=.bn λi b g=>by
 obtain⟨d,j,k,e⟩:=g;obtain⟨a,rfl⟩:∃a:Nat,b=a:=⟨b.toNat,by omega⟩
 exact TH i a d y e
abbrev mD(b:bD):p Int:=(SW b).map λa:Nat=>(a:Int)
def Uu(o)(z:d6 o=f)(D:c o<=4000000):Z r 235 [b1 o] [] (aB.S (mD o)) []:=by
 refine Z.K func235 rfl λC=>?_;have j:a9 r [(283,GZ)]:=.cons adF .nil;refine a' j [(1000003,f)] a v (g.bO 3 3 1 a a ?_);refine ca j a v (g.aL 1 (λd:Nat×p Int=>d.1<=c o/\c d.2<=d.1/\∃e,c o<=d.1+e/\mD o=d.2++(lg o e d.1).map λA:Nat=>(A:Int)) (λd=>[(0,b1 o),(3,.q (.aq (.r 0 1 (c d.2) (aB.fn d.2)))),(4,S d.1)]) (λd=>[.r 3 1 (c d.2) (aB.fn d.2)]) (λd=>c o-d.1) (0,[]) a E a E a ⟨by simp,by simp,c o,by simp,by exact bH⟩ ?_);rintro⟨i,b⟩ ⟨x,w,e,l,t⟩;simp only at x w l t;by_cases k:i<c o
 .obtain⟨e,rfl⟩:∃n,e=n+1:=⟨e-1,by omega⟩
  have y:=rJ o i k;have u:=aB.a0 b (en o i:Int);have s:c b+1=c (b++[(en o i:Int)]):=E;refine a' j [(9,f)] a ?_ (g.aB (en o i,b++[(en o i:Int)]) a ?_ ?_ ?_ ?_)
  .simp only[U,z,show ef.bytes=8 from a,bA,bb,a_];exact fv
  .exact U.Z.2 ⟨a,U.Z.2 ⟨⟨s,u⟩,U.Z.2 ⟨a,v⟩⟩⟩
  .exact U.Z.2 ⟨⟨s,u⟩,v⟩
  .refine⟨y.2.1,by grind,e,by grind,?_⟩;rw[t];simp only[lg,bs k];simp
  grind
 have B:mD o=b:=by
  have:lg o e i=[]:=by cases e<;>simp[lg,k]
  grind
 refine a' j [(9,m)] a bw (g.aC ?_);refine ca j a v (g.aw a ?_);simp_all
abbrev G6:bL:=dm eE (λa=>aB.S (mD a)) λa=>[d6 a=f,c a<=4000000]
def adO:bM r 235 G6:=.bb λb a=>Uu b a.1 a.2
def Te{d a}{b:α}(i:d.drop e=b::a)(g:α):e<c d/\d.getD e g=b/\d.drop (e+1)=a:=by grind[List.drop_eq_nil_of_le,List.drop_eq_getElem_cons]
def Ir(o):∀a b,c (lg o a b)<=a
 |0,_=>bB _
 |a+1,b=>by
  simp[lg];split
  .have:=Ir o a (en o b);grind
  simp
def TB(o)(R:d6 o=f)(O:c o<=4000000):Z r 184 [b1 o] [] (bS.S (cl o)) []:=by
 refine Z.K func184 rfl λW=>?_;have k:a9 r [(235,G6)]:=.cons adO .nil;have V:c (mD o)<=c o:=by simp[mD,kK];exact Ir o _ _
 refine a' k [(1000002,f)] a v (g.bO 3 9 1 a a ?_);refine ca k a dD (g.aL 1 (λd:Nat×Nat×p bD=>d.1<=c (mD o)/\d.2.1<=c o/\c d.2.2<=d.1/\∃i,c o<=d.2.1+i/\(mD o).drop d.1=((lg o i d.2.1).map λJ:Nat=>(J:Int))/\cl o=d.2.2++iA o i d.2.1) (λd=>[(0,b1 o),(3,.q (.aq (.r 0 1 (c d.2.2) (bS.fn d.2.2)))),(4,S d.2.1),(5,aB.S (mD o)),(6,S d.1)]) (λd=>[.r 9 1 (c d.2.2) (bS.fn d.2.2)]) (λd=>c (mD o)-d.1) (0,0,[]) a E a E a ⟨by simp,by simp,by simp,c o,by simp,by exact bH,by simp[cl]⟩ ?_);rintro⟨t,b,e⟩ ⟨n,I,F,i,s,y,x⟩;simp only at n I F s y x;by_cases l:t<c (mD o)
 .have C:lg o i b≠[]:=by grind[List.length_drop]
  obtain⟨i,rfl⟩:∃w,i=w+1:=by
   cases i with
   |zero=>exact bH
   |succ i=>grind
  have j:b<c o:=by
   rcases dZ b (c o) with l|l
   .exact l
   exact absurd (by simp[lg,bm (show¬b<c o by omega)]) C
  simp[lg,bs j,mq]at y;obtain⟨_,X,N⟩:=Te y 0;have K:=rJ o b j;have u:(mD o).getD (t:Int).toNat aB.I=(en o b:Int):=M;have z:mA o (h (b:Int)) (h (en o b:Int))=(o.drop b).take (en o b-b):=NY;have D:=bS.a0 e ((o.drop b).take (en o b-b));have B:c e+1=c (e++[(o.drop b).take (en o b-b)]):=E;refine a' k [(13,f)] a ?_ (g.aB (t+1,en o b,e++[(o.drop b).take (en o b-b)]) a ?_ ?_ ?_ ?_)
  .simp only[U,u,a8,jl,show ta.bytes=16 from a,bA,bb,a_];exact fv
  .simp only[U.Z,U,u,z,bb,a_];and_intros<;>first|exact B|exact D|simp|omega
  .simp only[U.Z,U,u,z,bb,a_];and_intros<;>first|exact B|exact D
  .refine⟨by grind,K.2.1,by grind,i,by grind,N,?_⟩;rw[x];simp only[iA,bs j];simp
  grind
 have T:cl o=e:=by
  have A:lg o i b=[]:=by grind[List.map_eq_nil_iff]
  have j:¬b<c o:=by
   intro Q;cases i with
   |zero=>omega
   |succ i=>simp only[lg,bs Q]at A;cases A
  rw[x];cases i<;>simp[iA,j]
 refine a' k [(13,m)] a dD (g.aC ?_);refine ca k a v (g.aw a ?_);simp_all
abbrev xt:bL:=dm eE (λa=>bS.S (cl a)) λa=>[d6 a=f,c a<=4000000]
def Ez:bM r 184 xt:=.bb λb a=>TB b a.1 a.2
def _root_.Go.AM.c1.e2(b:c1 α)(d)(l X):bu (c d+1+1) (cg (c d+1) (cg (c d) (b.fn d) λa=>[b.a8 l].getD a []) λa=>[b.a8 X].getD a []) (b.fn (d++[l,X])):=by
 have i:=b.a0 d l;have e:=b.a0 (d++[l]) X;rw[show(d++[l]).length=c d+1 by simp,show d++[l]++[X]=d++[l,X] by simp]at e;intro a j;rw[<-e a j];simp[cg];by_cases g:a<c d+1
 .rw[bs g,bs g];exact i a g
 grind
abbrev S1(a:cY):z:=.q (.agg [.c (.int .i64 a.1),.c (.V a.2)])
def jy(d:cY)(a:p cY×Bool)(b:cY):p cY×Bool:=if a.2=f then(a.1++[b],f)else if d.1<b.1 then(a.1++[d,b],f)else(a.1++[b],m)
def Mp(l):∀b(a:p cY),(b.foldl (jy l) (a,f))=(a++b,f)
 |[],a=>by simp
 |d::e,a=>by rw[iI,show jy l (a,f) d=(a++[d],f)from rfl,Mp l e];simp
def Mq(l):∀e(a:p cY),(if(e.foldl (jy l) (a,m)).2=f then(e.foldl (jy l) (a,m)).1 else(e.foldl (jy l) (a,m)).1++[l])=a++fC e l
 |[],a=>by simp[fC]
 |b::g,a=>by
  rw[iI];by_cases d:l.1<b.1
  .rw[show jy l (a,m) b=(a++[l,b],f) by simp[jy,d],Mp];simp[fC,d]
  rw[show jy l (a,m) b=(a++[b],m) by simp[jy,d],Mq l g];simp[fC,d]
theorem Mr(l):∀b(a:p cY×Bool),(b.foldl (jy l) a).1.length<=c a.1+c b+1-(if a.2=f then 1 else 0)
 |[],a=>by grind
 |e::d,a=>by rw[iI];have:=Mr l d (jy l a e);unfold jy at this⊢;grind
abbrev mv(d:cY)(b:p cY)(a:Nat):p cY×Bool:=(b.take a).foldl (jy d) ([],m)
def RV{l}{d}(a:e<c d):mv l d (e+1)=jy l (mv l d e) (d.getD e (0,[])):=ii
def Ge(l)(d)(e):(mv l d e).1.length<=c d+1:=by grind[Mr]
abbrev abc(d:p cY)(e:cY)(b:Nat)(a:p cY×Bool):bJ:=[(0,bI.S d),(3,aH 0 0),(5,.q (.aq (.r 1 2 (c a.1) (bI.fn a.1)))),(6,bj a.2),(7,S b)]
abbrev abb(b:cY)(a:p cY):p an:=[.cells 131 [.c (.int .i64 b.1),.c (.V b.2)],.r 131 2 (c a) (bI.fn a)]
def WT(d)(l)(A:c d<=4000000):Z r 189 [bI.S d,S1 l] [] (bI.S (fC d l)) []:=by
 refine Z.K func189 rfl λz=>?_;refine bR [(1000002,f)] a v (g.bO 5 131 2 a a ?_);refine cx a v (g.aL 2 (λb=>b<=c d) (λb:Nat=>abc d l b (mv l d b)) (λb=>abb l (mv l d b).1) (λb=>c d-b) 0 a ?_ a ?_ a y ?_)
 .simp[mv]
 .simp[mv]
 intro b u;by_cases t:b<c d
 .have k:=RV (l:=l) t;have j:=Ge l d b;have ae:d.getD (b:Int).toNat bI.I=d.getD b (0,[]):=M;generalize mv l d b=e at k j;obtain⟨e,o⟩:=e;simp only at j;have i:=bI.a0 e (d.getD b (0,[]));have p:=bI.e2 e l (d.getD b (0,[]));cases o with
  |true=>
   have s:mv l d (b+1)=(e++[d.getD b (0,[])],f):=k;have w:c e+1=c (e++[d.getD b (0,[])]):=E;refine bR [(12,f)] a ?_ (g.aB (b+1) a ?_ ?_ ?_ ?_)
   .simp only[U,ae,a8,show l1.bytes=24 from a,bA,bb,a_];exact fv
   .exact Oj
   .exact OH
   .grind
   omega
  |false=>
   by_cases n:l.1<(d.getD b (0,[])).1
   .have s:mv l d (b+1)=(e++[l,d.getD b (0,[])],f):=by rw[k];simp only[jy,bs n];rfl
    have w:c e+1+1=c (e++[l,d.getD b (0,[])]):=E;refine bR [(12,f),(25,f)] a ?_ (g.aB (b+1) a ?_ ?_ ?_ ?_)
    .simp only[U,ae,a8,show l1.bytes=24 from a,n,ng,bA,bb,a_];exact fv
    .rw[s];simp[U.Z,U,ae,bb,a_];and_intros<;>first|exact w|exact p|simp|rfl|omega
    .rw[s];simp[U.Z,U,ae,bb,a_];and_intros<;>first|exact w|exact p|exactλ_ _=>rfl|rfl|omega
    .grind
    omega
   have s:mv l d (b+1)=(e++[d.getD b (0,[])],m):=by rw[k];simp only[jy,bm n];rfl
   have w:c e+1=c (e++[d.getD b (0,[])]):=E;refine bR [(12,f),(25,m)] a ?_ (g.aB (b+1) a ?_ ?_ ?_ ?_)
   .simp only[U,ae,a8,show l1.bytes=24 from a,bA,n,o7,qe,dr,bb,a_];exact fv
   .exact Oj
   .exact OH
   .grind
   omega
 obtain rfl:b=c d:=y;have I:=Mq l d [];have j:=Ge l d (c d);refine bR [(12,m)] a E (g.aC ?_);have x:mv l d (c d)=d.foldl (jy l) ([],m):=M;rw[x]at j⊢;generalize d.foldl (jy l) ([],m)=e at *;obtain⟨e,o⟩:=e;simp only[qb]at I j;cases o with
 |true=>
  exact PU
 |false=>
  simp only[kg,dn]at I;have i:=bI.a0 e l;refine cx a ?_ (g.aw a ?_)
  .simp only[U,show l1.bytes=24 from a,bb,a_];grind
  rw[<-I];simp only[U.Z,U,bb,a_];and_intros<;>first|exact i|simp
abbrev Hs:bL:=er (e3 bI) sq (λa b=>bI.S (fC a b)) λa _=>[c a<=4000000]
def aei:bM r 189 Hs:=.bn λb d a=>WT b d a
abbrev S6(a:fd):z:=.q (.agg [.c (.int .i64 a.1),.c (.int .i64 a.2)])
def fj(d:fd)(a:p fd×Bool)(b:fd):p fd×Bool:=
 if a.2=f then(if b.1=d.1 then a else(a.1++[b],f))else if d.1<=b.1 then(if b.1=d.1 then(a.1++[d],f)else(a.1++[d,b],f))else(a.1++[b],m)
def zo(l):∀(e:p fd)a,(e.foldl (fj l) (a,f))=(a++e.filter λi=>!(i.1==l.1),f)
 |[],a=>by simp
 |d::g,a=>by
  rw[iI];by_cases b:d.1=l.1
  .rw[show fj l (a,f) d=(a,f) by simp[fj,b],zo l g];simp[b]
  rw[show fj l (a,f) d=(a++[d],f) by simp[fj,b],zo l g];simp[b]
def Mt(l):∀e(a:p fd),(if(e.foldl (fj l) (a,m)).2=f then(e.foldl (fj l) (a,m)).1 else(e.foldl (fj l) (a,m)).1++[l])=a++eb e l
 |[],a=>by simp[eb]
 |b::i,a=>by
  rw[iI];by_cases g:l.1<=b.1
  .have s:¬b.1<l.1:=y;by_cases d:b.1=l.1
   .rw[show fj l (a,m) b=(a++[l],f) by simp[fj,d],zo];simp[eb,d]
   rw[show fj l (a,m) b=(a++[l,b],f) by simp[fj,g,d],zo];simp[eb,s,d]
  have s:b.1<l.1:=y;rw[show fj l (a,m) b=(a++[b],m) by simp[fj,g],Mt l i];simp[eb,s]
theorem Mu(l):∀i(a:p fd×Bool),(i.foldl (fj l) a).1.length<=c a.1+c i+1-(if a.2=f then 1 else 0)
 |[],a=>by grind
 |b::k,a=>by
  rw[iI];have e:=Mu l k (fj l a b);obtain⟨a,j⟩:=a;simp[fp];cases j with
  |true=>
   by_cases d:b.1=l.1
   .rw[show fj l (a,f) b=(a,f) by simp[fj,d]]at e⊢;grind
   rw[show fj l (a,f) b=(a++[b],f) by simp[fj,d]]at e⊢;grind
  |false=>
   by_cases g:l.1<=b.1
   .by_cases d:b.1=l.1
    .rw[show fj l (a,m) b=(a++[l],f) by simp[fj,d]]at e⊢;grind
    rw[show fj l (a,m) b=(a++[l,b],f) by simp[fj,g,d]]at e⊢;grind
   rw[show fj l (a,m) b=(a++[b],m) by simp[fj,g]]at e⊢;grind
abbrev k_(d:fd)(b:p fd)(a:Nat):p fd×Bool:=(b.take a).foldl (fj d) ([],m)
def RX{l}{d}(a:e<c d):k_ l d (e+1)=fj l (k_ l d e) (d.getD e (0,0)):=ii
def Gf(l)(d)(e):(k_ l d e).1.length<=c d+1:=by grind[Mu]
abbrev abe(d:p fd)(e:fd)(b:Nat)(a:p fd×Bool):bJ:=[(0,e6.S d),(3,aH 0 0),(5,.q (.aq (.r 1 2 (c a.1) (e6.fn a.1)))),(6,bj a.2),(7,S b)]
abbrev abd(b:fd)(a:p fd):p an:=[.cells 230 [.c (.int .i64 b.1),.c (.int .i64 b.2)],.r 230 2 (c a) (e6.fn a)]
def WU(d)(l:fd)(z:c d<=4000000):Z r 188 [e6.S d,S6 l] [] (e6.S (eb d l)) []:=by
 refine Z.K func188 rfl λx=>?_;refine bR [(1000002,f)] a v (g.bO 5 230 2 a a ?_);refine cx a v (g.aL 2 (λb=>b<=c d) (λb:Nat=>abe d l b (k_ l d b)) (λb=>abd l (k_ l d b).1) (λb=>c d-b) 0 a ?_ a ?_ a y ?_)
 .simp[k_]
 .simp[k_]
 intro b t;by_cases p:b<c d
 .have i:=RX (l:=l) p;have j:=Gf l d b;have ae:d.getD (b:Int).toNat e6.I=d.getD b (0,0):=M;generalize k_ l d b=e at i j;obtain⟨e,k⟩:=e;simp only at j;have w:=e6.a0 e (d.getD b (0,0));have n:=e6.a0 e l;have o:=e6.e2 e l (d.getD b (0,0));cases k with
  |true=>
   by_cases heq:(d.getD b (0,0)).1=l.1
   .have s:k_ l d (b+1)=(e,f):=by rw[i];simp only[fj,dJ,bs heq]
    refine bR [(12,f),(38,m)] a QJ (g.aB (b+1) a FU FU M ?_);omega
   have s:k_ l d (b+1)=(e++[d.getD b (0,0)],f):=by rw[i];simp only[fj,dJ,bm heq]
   refine bR [(12,f),(38,f)] a QJ (g.aB (b+1) a OF Pv M ?_);omega
  |false=>
   by_cases ai:l.1<=(d.getD b (0,0)).1
   .by_cases heq:(d.getD b (0,0)).1=l.1
    .have s:k_ l d (b+1)=(e++[l],f):=by rw[i];simp only[fj,bs ai,bs heq];rfl
     refine bR [(12,f),(25,f),(38,m)] a Fh (g.aB (b+1) a ?_ ?_ ?_ ?_)
     .rw[s];simp only[U.Z,U,ae,bb,a_];and_intros<;>first|exact w|exact n|simp|simp|rfl|omega|simp
     .rw[s];exact bH
     .grind
     omega
    have s:k_ l d (b+1)=(e++[l,d.getD b (0,0)],f):=by rw[i];simp only[fj,bs ai,bm heq];rfl
    refine bR [(12,f),(25,f),(38,f)] a Fh (g.aB (b+1) a ?_ ?_ ?_ ?_)
    .rw[s];simp only[U.Z,U,ae,bb,a_];and_intros<;>first|exact w|exact n|exact o|simp|rfl|omega|simp
    .rw[s];simp only[U.Z,U,ae,bb,a_];and_intros<;>first|exact w|exact n|exact o|grind|rfl|omega|simp
    .grind
    omega
   have heq:¬(d.getD b (0,0)).1=l.1:=y;have s:k_ l d (b+1)=(e++[d.getD b (0,0)],m):=by rw[i];simp only[fj,bm ai];rfl
   refine bR [(12,f),(25,m),(38,f)] a Fh (g.aB (b+1) a OF Pv M ?_);omega
 obtain rfl:b=c d:=y;have I:=Mt l d [];have j:=Gf l d (c d);refine bR [(12,m)] a E (g.aC ?_);have u:k_ l d (c d)=d.foldl (fj l) ([],m):=M;rw[u]at j⊢;generalize d.foldl (fj l) ([],m)=e at *;obtain⟨e,k⟩:=e;simp only[qb]at I j;cases k with
 |true=>
  exact PU
 |false=>
  simp only[kg,dn]at I;have w:=e6.a0 e l;refine cx a ?_ (g.aw a ?_)
  .simp only[U,show ox.bytes=16 from a,bb,a_];grind
  rw[<-I];simp only[U.Z,U,bb,a_];and_intros<;>first|exact w|simp
abbrev Ht:bL:=er (e3 e6) p7 (λa b=>e6.S (eb a b)) λa _=>[c a<=4000000]
def aej:bM r 188 Ht:=.bn λb d a=>WU b d a
abbrev Ep(a:cb):p fd:=a.2.map λb=>(b.1,a.1)
def hg(b:p cb)(a d:Nat):p fd:=dH (b.take a)++(Ep (b.getD a (0,[]))).take d
def Er{d}(a:e<c d):dH (d.take (e+1))=dH (d.take e)++Ep (d.getD e (0,[])):=by rw[ih a (0,[])];simp[dH]
theorem Mk(d)(e):c (dH (d.take e))<=c (dH d):=by have a:dH d=dH (d.take e)++dH (d.drop e):=Ru;grind
def zl{d}(b:e<c d):∃g,dH d=hg d e w++g:=by have a:dH d=dH (d.take (e+1))++dH (d.drop (e+1)):=Ru;refine⟨(Ep (d.getD e (0,[]))).drop w++dH (d.drop (e+1)),?_⟩;rw[a,Er b,hg,mu,mu];grind[List.take_append_drop]
theorem abP(d)(l):c (eb d l)<=c d+1:=by
 induction d with
 |nil=>simp[eb]
 |cons e b a=>
  simp only[eb];grind
theorem CY(d):∀a:p fd,c (d.foldl eb a)<=c a+c d:=by
 induction d with
 |nil=>grind
 |cons g e b=>grind[abP]
def Vg(d)(J:c d<=4000000)(I:c (dH d)<=100000):Z r 143 [a2.S d] [] (e6.S (eA d)) []:=by
 refine Z.K func143 rfl λK=>?_;have e:a9 r [(187,HA),(188,Ht)]:=.cons aer (.cons aej .nil);refine cO e a v (g.aL 0 (λb=>b<=c d/\(dH (d.take b)).all fU=f) (λb:Nat=>[(0,a2.S d),(3,e6.S ((dH (d.take b)).foldl eb [])),(4,S b)]) (λ_=>[]) (λb=>c d-b) 0 a ?_ a ?_ a ⟨by omega,a⟩ ?_)
 .simp[dH]
 .simp
 rintro b ⟨s,k⟩;by_cases l:b<c d
 .have i:d.getD (b:Int).toNat a2.I=d.getD b (0,[]):=M;have p:=Er l;refine bg e [(11,f)] a bw (g.aL 0 (λw=>w<=(d.getD b (0,[])).2.length/\(hg d b w).all fU=f) (λw:Nat=>[(0,a2.S d),(3,e6.S ((hg d b w).foldl eb [])),(4,S b),(5,S w)]) (λ_=>[]) (λw=>(d.getD b (0,[])).2.length-w) 0 a ?_ a ?_ a ⟨by omega,by simpa[hg]using k⟩ ?_)
  .simp[hg]
  .simp
  rintro w ⟨O,C⟩;obtain⟨z,x⟩:=zl (d:=d) (w:=w) l;have B:c (hg d b w)<=100000:=M;have u:=CY (hg d b w) [];simp only[gI]at u;have D:(d.getD b (0,[])).2.length<=100000:=by grind[Mk]
  by_cases N:w<(d.getD b (0,[])).2.length
  .have j:(d.getD b (0,[])).2.getD (w:Int).toNat bI.I=(d.getD b (0,[])).2.getD w (0,[]):=M;have t:hg d b (w+1)=hg d b w++[(((d.getD b (0,[])).2.getD w (0,[])).1,(d.getD b (0,[])).1)]:=Ra;cases n:fU (((d.getD b (0,[])).2.getD w (0,[])).1,(d.getD b (0,[])).1)with
   |false=>
    have A:eA d=[]:=by obtain⟨z,x⟩:=zl (d:=d) (w:=w+1) l;unfold eA;rw[bm];grind
    refine bg e [(21,f),(40,m)] a ?_ (g.aX (bW.zero a ?_))
    .simp only[U,i,j,n,bA,bb,a_];exact fv
    rw[A];simp
   |true=>
    refine bg e [(21,f),(40,f)] a ?_ (g.aB (w+1) a ?_ ?_ ?_ ?_)
    .simp only[U,i,j,n,a8,e6.E,bA,bb,a_];and_intros<;>first|exact e6.U _|omega
    .rw[t];simp only[uE,iI,List.foldl_nil,U.Z,U,i,j,e6.E,bb,a_];and_intros<;>first|simp|rfl|omega
    .simp
    .grind
    omega
  have F:w=(d.getD b (0,[])).2.length:=y;have o:hg d b w=dH (d.take (b+1)):=by rw[p,hg];grind[List.length_map]
  refine bg e [(21,m)] a ?_ (g.aC ?_)
  .simp only[U,i,dr];exact fv
  refine cO e a bH (g.aB (b+1) a ?_ ?_ ?_ ?_)
  .rw[o];simp
  .simp
  .grind
  omega
 obtain rfl:b=c d:=y;rw[c8]at k⊢;refine bg e [(11,m)] a E (g.aC ?_);refine cO e a v (g.aw a ?_);simp[eA,k]
abbrev G_:bL:=dm (e3 a2) (λa=>e6.S (eA a)) λa=>[c a<=4000000,c (dH a)<=100000]
def adW:bM r 143 G_:=.bb λb a=>Vg b a.1 a.2
abbrev xz:bL:=er db eE (λa b=>S (d8 a b)) λa b=>[cF a=f,cC b=f]
abbrev BG:bL:=dm eE (λa=>b1 (fI a)) λa=>[cC a=f]
def ML:bM r 190 BG:=.bb λb a=>WI b a
theorem abJ(d)(l):c (fC d l)=c d+1:=by
 induction d with
 |nil=>simp[fC]
 |cons e b a=>simp only[fC];split<;>simp[a]
def h'(d:Int)(a:p bD):p cY:=a.foldl (λe b=>fC e (d8 d b,fI b)) []
def Dt(i)(Y):c (h' i Y)=c Y:=by
 have d:∀Y b,c (Y.foldl (λe a=>fC e (d8 i a,fI a)) b)=c b+c Y:=by
  intro Y;induction Y with
  |nil=>grind
  |cons a j g=>grind[abJ]
 have:=d Y [];rw[gI,cZ]at this;exact this
def aaQ{Y}(a:e<c Y):h' i (Y.take (e+1))=fC (h' i (Y.take e)) (d8 i (Y.getD e []),fI (Y.getD e [])):=by unfold h';grind[ih]
abbrev abu(a:Int)(b:p cY):an:=.cells 89 [.c (.int .i64 a),.c (.S m 2 (c b) (bI.fn b))]
def V8(bO i)(Y)(e:cF i=f)(n:∀u∈Y,cC u=f)(z:c Y<=4000000):Z r 144 [S bO,S i,bS.S Y] [] (fG (jY bO i Y)) []:=by
 refine Z.bp be func144 rfl rfl rfl λx=>?_;have d:a9 r [(174,xz),(190,BG),(189,Hs)]:=.cons zr (.cons ML (.cons aei .nil));refine cO d a v (g.aL 2 (λb=>b<=c Y) (λb:Nat=>[(1,S i),(2,bS.S Y),(6,aH 0 0),(7,aH 1 0),(8,S b)]) (λb=>[.cells 89 [.c (.int .i64 0),.c (.S f 0 0 λ_=>[])],abu bO (h' i (Y.take b))]) (λb=>c Y-b) 0 a E a ?_ a y ?_)
 .simp[h']
 intro b p;by_cases o:b<c Y
 .have j:Y.getD (b:Int).toNat bS.I=Y.getD b []:=M;have k:cC (Y.getD b [])=f:=n _ M;have s:=aaQ (i:=i) o;have l:=Dt i (Y.take b);rw[List.length_take]at l;refine bg d [(15,f)] a ?_ (g.aB (b+1) a ?_ ?_ ?_ ?_)
  .simp only[U,j,e,k,a8,bI.E,bA,bb,a_];and_intros<;>first|exact bI.U _|omega
  .simp
  .rw[s];simp only[U.Z,U,j,bI.E,bb,a_];and_intros<;>first|simp|rfl|omega
  .grind
  omega
 obtain rfl:b=c Y:=y;rw[c8];refine bg d [(15,m)] a E (g.aC ?_);refine cO d a v (g.bj () [] ?_ (λw t=>absurd t E));simp[jY,h']
def WQ(b):Z r 253 [b1 b] [] (bj (cC b)) []:=by
 refine Z.K func253 rfl λi=>?_;have e:a9 r [(24,jQ),(106,xp)]:=.cons kB (.cons MA .nil);by_cases d:1<=c b/\c b<=8
 .refine a' e [(6,f)] a bV (g.aw a ?_);simp[cC,d.1,d.2]
 refine a' e [(6,m)] a bV (g.aw a ?_);have:cC b=m:=by simp[cC,<-Bool.decide_and,lG d,sD]
 simp[this]
abbrev Hp:bL:=dm eE (λa=>bj (cC a)) λ_=>[]
def aed:bM r 253 Hp:=.bb λa _=>WQ a
def WH(a):Z r 211 [b1 a] [] (b1 (fI a)) []:=by
 refine Z.K func211 rfl λd=>?_;have b:a9 r [(253,Hp),(190,BG)]:=.cons aed (.cons ML .nil);cases u:cC a with
 |true=>exact a' b [(5,m)] rfl g4 (g.aw rfl)
 |false=>exact a' b [(5,f)] rfl g4 (g.aw rfl (by simp[fI,u]))
abbrev Hn:bL:=dm eE (λa=>b1 (fI a)) λ_=>[]
def aeb:bM r 211 Hn:=.bb λa _=>WH a
def abm(b):c (fI b)<=8:=by
 unfold fI;split
 .rename_i a;simp[cC,cp,bA]at a;grind[HL]
 simp
def WF(j):Z r 173 [b1 j] [] (iQ (hI j)) []:=by
 refine Z.K func173 rfl λA=>?_;have C:=A.V 0 a;have p:a9 r [(211,Hn)]:=.cons aeb .nil;refine a0 a v ?_;have fin:∀k,k<=c j->fk (j.take k)=fk j->(k=0∨fk (j.take k)=j.take k)->j.take k=fk j:=λk d w o=>by
  rcases o with rfl|o
  .exact bH
  grind
 have e:∀k,k<=c j->j.take k=fk j->hI j=if c j<=8/\fI (fk j)=j/\k≠0 then h (j.take k)else q:=λk d w=>by
  have D:=abm (fk j);have t:k=0↔fk j=[]:=by grind[List.take_eq_nil_iff]
  unfold hI;rw[w];by_cases I:fI (fk j)=j
  .by_cases i:cC (fk j)=f
   .have:k≠0:=λx=>by rw[t.1 x]at i;cases i
    grind
   have x:k=0:=t.2 (by rw[fI,bm i]at I;grind);grind
  grind
 refine g.cl (S2:=Nat) 0 a a (λk=>k<=c j/\j.take k=fk j) (λk=>[(0,b1 j),(4,S k)]) (λ_=>[]) 0 (λk=>k<=c j/\fk (j.take k)=fk j) (λk:Nat=>[(0,b1 j),(4,S k)]) (λ_=>[]) (λk=>k) (c j) a E a v a ⟨by omega,by simp⟩ ?_ ?_
 .rintro dy k ⟨d,s⟩;rcases k with _|k
  .refine a7 [(9,m),(15,m)] a E (g.aC ?_);exact dy 0 ⟨d,fin 0 d s (.inl a)⟩ a E a v
  have t:=Mw (b:=j) (k:=k) y;have ae:((k:Int)+1-1).toNat=k:=y;by_cases o:j.getD k 0=46
  .refine a7 [(9,f),(15,f)] a ?_ (g.aB k a ?_ v ⟨by omega,?_⟩ y)
   .have I:ds j k=46:=by unfold ds;exact bH
    exact Pa
   .simp
   grind
  refine a7 [(9,f),(15,m)] a ?_ (g.aC ?_)
  .have I:ds j k≠46:=by unfold ds;intro B;exact o (uB.1 M)
   exact Pa
  exact dy (k+1) ⟨d,fin _ d s (.inr M)⟩ a E a v
 rintro k ⟨d,z⟩;have F:=e k d z;have u:mA j q (h (k:Int))=fk j:=z▸rfl;have n:((c j:Int)<=8)↔c j<=8:=y;by_cases l:c j<=8
 .by_cases iK:fI (fk j)=j
  .by_cases jP:k=0
   .refine a' p [(21,m),(29,m),(32,f)] a ?_ (g.aw a ?_)
    .subst jP;simp[U,u,iK];grind
    exact bH
   refine a' p [(21,m),(29,m),(32,m)] a ?_ (g.aw a ?_)
   .simp[u,n,l,iK,jP,d]
   exact bH
  refine a' p [(21,m),(29,f),(32,f)] a ?_ (g.aw a ?_)
  .simp[u,n,l,iK,d]
  exact bH
 refine a' p [(21,f),(29,f),(32,f)] a bV (g.aw a ?_);exact bH
abbrev BF:bL:=dm eE (λa=>iQ (hI a)) λ_=>[]
def MK:bM r 173 BF:=.bb λa _=>WF a
def WZ(i)(l)(a:cF i=f):Z r 130 [S i,B_ l] [] (bj (right i l)) []:=by
 refine Z.K func130 rfl λd=>?_;have b:a9 r [(173,BF),(174,xz)]:=.cons MK (.cons zr .nil);cases x:hI l.2 with
 |none=>exact a' b [(14,m)] rfl oY (g.aw rfl (by simp[right,x]))
 |some e=>exact a' b [(14,f)] rfl (by simp[x,a,K7 x]) (g.aw rfl (by simp[right,x]))
abbrev BH:bL:=er db sq (λa b=>bj (right a b)) λa _=>[cF a=f]
def MM:bM r 130 BH:=.bn λb d a=>WZ b d a
def Vv(i):Z r 58 [S i] [] (bj (cF i)) []:=by refine Z.K func58 rfl λd=>?_;have b:a9 r [(24,jQ)]:=.cons kB .nil;exact ca b a v (g.aw a (by simp[cF]))
abbrev sR:bL:=dm db (λa=>bj (cF a)) λ_=>[]
def wb:bM r 58 sR:=.bb λa _=>Vv a
abbrev xw(a:cb):an:=.cells 89 [.c (.int .i64 a.1),.c (lr a)]
def Wy(i)(b)(k):Z r 213 [S i,fG b,S k] [] (iQ (fP i b k)) []:=by
 refine Z.K func213 rfl λx=>?_;have j:a9 r [(58,sR),(130,BH),(173,BF)]:=.cons wb (.cons MM (.cons MK .nil));cases b2:cF i with
 |false=>
  refine a' j [(11,f)] a me (g.aw a ?_);have:fP i b k=q:=by unfold fP iL;grind
  simp[this]
 |true=>
 have z:=x.f' 1 a 1 a;refine a' j [(11,m)] a me (g.aL 1 (λd=>d<=c b.2/\b.2.find? (λl=>l.1==k)=(b.2.drop d).find? (λl=>l.1==k)) (λd:Nat=>[(0,S i),(4,aH 0 0),(2,S k),(8,S d)]) (λ_=>[xw b]) (λd=>c b.2-d) 0 a E a E a ⟨by omega,a⟩ ?_);rintro d ⟨w,e⟩;by_cases s:d<c b.2
 .have A:b.2.getD d bI.I=d' b d:=rfl;have t:b.2.drop d=d' b d::b.2.drop (d+1):=FL;rw[t,List.find?_cons]at e;by_cases o:(d' b d).1=k
  .rw[show((d' b d).1==k)=f by grind]at e;cases n:right i (d' b d)with
   |false=>
    have u:right i (k,(d' b d).2)=m:=o▸n;refine a' j [(16,f),(26,f),(34,f)] a dD (g.aX (bW.zero a ?_));have p:fP i b k=q:=by have:=BS (i:=i) (l:=d' b d) b2;rw[n]at this;simp[fP,e];simp_all
    simp[p]
   |true=>
    have u:right i (k,(d' b d).2)=f:=o▸n;refine a' j [(16,f),(26,f),(34,m)] a dD (g.aX (bW.zero a ?_));have p:fP i b k=hI (d' b d).2:=by simp[fP,e,iL];unfold right at n;grind
    simp_all
  rw[show((d' b d).1==k)=m by grind]at e;refine a' j [(16,f),(26,m)] a ?_ (g.aB (d+1) a E E ⟨s,e⟩ y);simp[-al,A,o,a8,s];omega
 obtain rfl:d=c b.2:=y;refine a' j [(16,m)] a E (g.aC ?_);refine ca j a v (g.aw a ?_);simp[fP,e]
abbrev Hq:bL:=kn db (jH bI) db (λa d b=>iQ (fP a d b)) λ_ _ _=>[]
def aeg:bM r 213 Hq:=.c8 λa d b _=>Wy a d b
theorem DM(b:Int)(a:cb):ib b a=(decide (1<=a.1/\a.1<=99)&&cF b&&decide (1<=c a.2/\c a.2<=4)&&(aC (c a.2)).all (ig b a)):=by grind[DL]
def ac7{R:cb}(a:e≠0):ig i R e=(right i (d' R e)&&decide ((d' R (e-1)).1<(d' R e).1)):=by unfold ig;grind
def WB(i:Int)(R:cb):Z r 92 [S i,fG R] [] (bj (ib i R)) []:=by
 refine Z.K func92 rfl λw=>?_;have d:a9 r [(24,jQ),(58,sR),(130,BH)]:=.cons kB (.cons wb (.cons MM .nil));have z:=w.f' 1 a 1 a;rw[DM];by_cases k:1<=R.1/\R.1<=99
 rotate_left
 .exact a' d [(10,f),(14,f),(21,f)] a bV (g.aw a bH)
 cases e:cF i
 .exact a' d [(10,m),(14,f),(21,f)] a dD (g.aw a)
 by_cases l:1<=c R.2/\c R.2<=4
 rotate_left
 .exact a' d [(10,m),(14,m),(21,f)] a bH (g.aw a bw)
 refine a' d [(10,m),(14,m),(21,m)] a lL ?_;rw[fq k,fq l,fr,fr,fr];refine g.aL 1 (λb=>b<=c R.2/\∀s,s<b->ig i R s=f) (λb:Nat=>[(0,S i),(3,aH 0 0),(5,S b)]) (λ_=>[xw R]) (λb=>c R.2-b) 0 a E a E a ⟨by omega,by omega⟩ ?_;rintro b ⟨t,n⟩;by_cases u:b<c R.2
 .have C:R.2.getD b bI.I=d' R b:=rfl;cases j:right i (d' R b)with
  |false=>
   refine a' d [(26,f),(37,f),(56,f)] a dD (g.aX (bW.zero a ?_));rw[kL u (by simp only[ig,j,sD])];simp
  |true=>
   by_cases p:b=0
   .subst p;refine a' d [(26,f),(37,m),(40,m),(56,m)] a ?_ (g.aB 1 a E E ⟨u,iJ n (by simp only[ig,j,fr];rfl)⟩ y);exact lL
   have o:R.2.getD (b-1) bI.I=d' R (b-1):=rfl;have A:=ac7 (i:=i) (R:=R) p;by_cases x:(d' R (b-1)).1<(d' R b).1
   .refine a' d [(26,f),(37,m),(40,f),(54,m),(56,m)] a ?_ (g.aB (b+1) a E E ⟨u,iJ n M⟩ y);simp[-al,C,o,j,e,u,x,a8];omega
   refine a' d [(26,f),(37,m),(40,f),(54,f),(56,f)] a ?_ (g.aX (bW.zero a ?_))
   .simp[-al,C,o,j,e,u,a8];omega
   exact j8
 obtain rfl:b=c R.2:=y;refine a' d [(26,m)] a E (g.aC ?_);exact ca d a v (g.aw a bw)
abbrev Hm:bL:=er db (jH bI) (λa b=>bj (ib a b)) λ_ _=>[]
def ad_:bM r 92 Hm:=.bn λa b _=>WB a b
def ou{a:p α}{I:α}(b:e<c a):a.getD e I∈a:=M
def YI{a:p Int}{b:Int}:a.contains b=!(aC (c a)).all λd=>!(a.getD d 0==b):=by rw[o9,jJ,<-qa,fN,AI];grind[List.mem_iff_getElem]
def UN(d:p Int)(e:Int):Z r 49 [aB.S d,S e] [] (bj (d.contains e)) []:=by
 refine Z.K func49 rfl λl=>?_;have o:=l.S 0 a;refine a0 a v ?_;rw[YI];refine g.cc (λb=>b<=c d/\∀j,j<b->(!(d.getD j 0==e))=f) (λb:Nat=>[(0,aB.S d),(1,S e),(5,S b)]) (λ_=>[]) (λb=>c d-b) 0 a E a v ⟨by omega,by omega⟩ ?_;rintro b ⟨n,k⟩;by_cases u:b<c d
 .have s:d.getD b aB.I=d.getD b 0:=rfl;by_cases i:d.getD b 0=e
  .refine a7 [(9,f),(17,f)] a ?_ (g.bV (bW.zero a ?_))
   .simp[-al,s,i,u]
   exact j8
  refine a7 [(9,f),(17,m)] a ?_ (g.b5 (b+1) a E a v ⟨u,iJ k M⟩ y);simp[-al,s,i,u,a8];omega
 obtain rfl:b=c d:=y;refine a7 [(9,m)] a E (g.bu a a ?_);exact a0 a v (g.aw a dD)
abbrev uX:bL:=er (e3 aB) db (λa b=>bj (a.contains b)) λ_ _=>[]
def zq:bM r 49 uX:=.bn λa b _=>UN a b
def WO(e:Int)(b:p cb)(i:Int):Z r 175 [S e,a2.S b,S i] [] (iQ (df e b i)) []:=by
 refine Z.K func175 rfl λt=>?_;have w:=t.S 1 a;have l:a9 r [(213,Hq)]:=.cons aeg .nil;refine ca l a v (g.cc (λd=>d<=c b/\df e b i=df e (b.drop d) i) (λd:Nat=>[(0,S e),(1,a2.S b),(2,S i),(8,S d)]) (λ_=>[]) (λd=>c b-d) 0 a E a v ⟨by omega,a⟩ ?_);rintro d ⟨u,j⟩;by_cases n:d<c b
 .have s:b.drop d=b.getD d (0,[])::b.drop (d+1):=FL;have o:((b.getD d a2.I).1,bI.af (b.getD d a2.I).2.length (bI.fn (b.getD d a2.I).2))=b.getD d (0,[]):=bH;rw[s,show df e (b.getD d (0,[])::b.drop (d+1)) i=_ from List.findSome?_cons]at j;cases k:fP e (b.getD d (0,[])) i with
  |some x=>
   rw[k]at j;refine a' l [(14,f),(27,f)] a ?_ (g.bV (bW.zero a ?_))
   .simp[-al,o,k,n,bI.U]
   simp_all
  |none=>
   rw[k]at j;refine a' l [(14,f),(27,m)] a ?_ (g.b5 (d+1) a E a v ⟨n,j⟩ y);simp[-al,o,k,n,a8,bI.U];omega
 obtain rfl:d=c b:=y;refine a7 [(14,m)] a E (g.bu a a ?_);exact a0 a v (g.aw a (by rw[j,sB];simp[df]))
abbrev Ho:bL:=kn db (e3 a2) db (λb a d=>iQ (df b a d)) λ_ _ _=>[]
def aec:bM r 175 Ho:=.c8 λb a d _=>WO b a d
def W0(x j):Z r 214 [bS.S x,bS.S j] [] (bj (x==j)) []:=by
 refine Z.K func214 rfl λl=>?_;have u:=l.S 0 a;by_cases s:c x=c j
 rotate_left
 .have:(x==j)=m:=eY.2 M;exact a7 [(10,f)] a bV (g.aw a (by simp[this]))
 refine a7 [(10,m)] a bV (g.cc (λb=>b<=c x/\∀d,d<b->x.getD d []=j.getD d []) (λb:Nat=>[(0,bS.S x),(1,bS.S j),(5,S b)]) (λ_=>[]) (λb=>c x-b) 0 a E a v ⟨by omega,by omega⟩ ?_);rintro b ⟨o,t⟩;by_cases n:b<c x
 .have i:∀k:p bD,k.getD b bS.I=k.getD b []:=λ_=>rfl;by_cases e:x.getD b []=j.getD b []
  .refine a7 [(14,f),(25,m)] a ?_ (g.b5 (b+1) a E a v ⟨n,λd w=>?_⟩ y)
   .simp[-al,i,e,a8];omega
   grind
  refine a7 [(14,f),(25,f)] a ?_ (g.bV (bW.zero a ?_))
  .simp[-al,i,e];omega
  exact Fa
 obtain rfl:b=c x:=y;have:x=j:=ru s λd e z=>by grind
 refine a7 [(14,m)] a E (g.bu a a ?_);exact a0 a v (g.aw a (by simp[this]))
def aem:bM r 214 xv:=.bn λa b _=>W0 a b
def Ld(o):∀d e b,b∈iA o d e->c b<=8
 |0,_,b,a=>by exact bH
 |d+1,e,b,a=>by
  simp only[iA]at a;split at a
  .rename_i g;rcases e4.1 a with rfl|a
   .grind [rJ]
   exact Ld o d _ b a
  grind
def SY{d}{a}(e:a∈d)(g:8<c a):iN d=q:=by unfold iN;rw[bm];intro b;simp[cp,gW]at b;have:=Ld d.flatten (c d.flatten) 0 a (by rw[show iA d.flatten (c d.flatten) 0=d from b.2];exact e);omega
def Yj(a:p bD)(e):(a.take e).flatten.length<=c a.flatten:=FP
def SX{d:p bD}(b:40<(d.take e).flatten.length):iN d=q:=by have:=Yj d e;unfold iN;rw[bm];intro a;simp only[cp,fJ,bA]at a;omega
def Vt(d):Z r 176 [bS.S d] [] (iQ (iN d)) []:=by
 refine Z.K func176 rfl λp=>?_;have t:=p.S 0 a;have b:a9 r [(64,xq),(184,xt),(214,xv)]:=.cons t64 (.cons Ez (.cons aem .nil));refine ca b a v (g.cc (λe=>e<=c d/\(d.take e).flatten.length<=48) (λe:Nat=>[(0,bS.S d),(4,b1 (d.take e).flatten),(5,S e)]) (λ_=>[]) (λe=>c d-e) 0 a E a v ⟨by omega,by simp⟩ ?_);rintro e ⟨o,l⟩;by_cases k:e<c d
 .have j:d.getD e bS.I=d.getD e []:=rfl;have w:(d.take (e+1)).flatten=(d.take e).flatten++d.getD e []:=ii;by_cases i:c (d.getD e [])<=8
  .by_cases s:(d.take e).flatten.length<=40
   .refine a' b [(9,f),(18,m),(22,m)] a ?_ (g.b5 (e+1) a ?_ a v ⟨k,by grind⟩ y)
    .simp[-al,-List.length_flatten,j,a8];omega
    simp_all
   refine a' b [(9,f),(18,m),(22,f)] a ?_ (g.bV (bW.zero a ?_))
   .simp[-al,-List.length_flatten,j];omega
   simp[SX (d:=d) (e:=e) y]
  refine a' b [(9,f),(18,f),(22,f)] a ?_ (g.bV (bW.zero a ?_))
  .simp[-al,j];omega
  simp[U,U.Z,SY (ou (I:=[]) k) y]
 obtain rfl:e=c d:=y;rw[c8]at l⊢;refine a' b [(9,m)] a E (g.bu a a ?_);have n:=bS.E d;cases i:fJ d.flatten with
 |false=>exact a' b [(32,f),(38,f)] rfl (by simp[i]) (g.aw rfl (by simp[iN,i]))
 |true=>
  have u:d6 d.flatten=f:=by simp[fJ,cp]at i;exact i.2
  cases s:(cl d.flatten==d)with
  |false=>
   refine a' b [(32,m),(38,f)] a ?_ (g.aw a (by simp[iN,s]));exact bH
  |true=>
   refine a' b [(32,m),(38,m)] a ?_ (g.aw a (by simp[iN,i,s]));exact bH
abbrev Hb:bL:=dm (e3 bS) (λa=>iQ (iN a)) λ_=>[]
def ad0:bM r 176 Hb:=.bb λa _=>Vt a
abbrev zi(a:eI):an:=.cells 96 [.c (.int .i64 a.1),.c (.S m 2 (c a.2) (cy.fn a.2))]
abbrev nw(d:Int)(b:p cb)(a:p Int):p bD:=a.map λe=>(df d b e).getD []
def YH{Y}{a}(b:w<c a):nw i Y (a.take (w+1))=nw i Y (a.take w)++[(df i Y (a.getD w 0)).getD []]:=ii
def X'{Y}{a}(d:w<c a)(b:df i Y (a.getD w 0)=q):g0 i Y a=q:=NH
def Ya{Y}{a}(d:∀b,b<c a->(df i Y (a.getD b 0)).isSome=f):g0 i Y a=h (nw i Y a):=by unfold g0;rw[bs];grind[List.mem_iff_getElem]
def Xk(i)(b)(Y)(ab:c b.2<=4000000)(T:∀e∈b.2,c e.2<=4000000):
  Z r 131 [S i,iR b,a2.S Y] [] (r9 ((ev i b Y).getD []) (ev i b Y).isSome) []:=by
 refine Z.K func131 rfl λH=>?_;have o:a9 r [(58,sR),(175,Ho),(176,Hb),(32,sP)]:=.cons wb (.cons aec (.cons ad0 (.cons t32 .nil)));cases b2:cF i with
 |false=>
  refine a' o [(19,f)] a me (g.aw a ?_);simp[ev,b2]
 |true=>
 refine a' o [(19,m),(1000004,f)] a me (g.bO 8 105 2 a a ?_);refine ca o a v (g.aL 2 (λn=>n<=c b.2/\∀l,l<n->(fH i Y (b.2.getD l ([],[]))).isSome=f) (λn:Nat=>[(0,S i),(2,a2.S Y),(4,aH 0 0),(8,.q (.aq (.r 1 2 (c (fh i Y (b.2.take n))) (bF.fn (fh i Y (b.2.take n)))))),(9,S n)]) (λn=>[zi b,.r 105 2 (c (fh i Y (b.2.take n))) (bF.fn (fh i Y (b.2.take n)))]) (λn=>c b.2-n) 0 a Aa a Aa a ⟨by omega,by omega⟩ ?_);rintro n ⟨V,N⟩;by_cases w:n<c b.2
 .have F:=T _ (ou (I:=([],[])) w);have ae:=CM (i:=i) (Y:=Y) w;have X:c (fh i Y (b.2.take n))=n:=by simp[fh];omega
  have j:b.2.getD (n:Int).toNat cy.I=b.2.getD n ([],[]):=M;have C:=Ej (i:=i) (Y:=Y) w;generalize z:b.2.getD n ([],[])=e at F ae j C;generalize fh i Y (b.2.take n)=p at *;refine a' o [(25,f),(1000008,f)] a bV (g.bO 10 9 1 a a ?_);refine ca o a v (g.aL 3 (λl=>l<=c e.2/\∀x,x<l->(df i Y (e.2.getD x 0)).isSome=f) (λl:Nat=>[(0,S i),(2,a2.S Y),(4,aH 0 0),(8,.q (.aq (.r 1 2 (c p) (bF.fn p)))),(9,S n),(10,.q (.aq (.r 2 1 (c (nw i Y (e.2.take l))) (bS.fn (nw i Y (e.2.take l)))))),(11,S l)]) (λl=>[zi b,.r 105 2 (c p) (bF.fn p),.r 9 1 (c (nw i Y (e.2.take l))) (bS.fn (nw i Y (e.2.take l)))]) (λl=>c e.2-l) 0 a E a E a ⟨by omega,by omega⟩ ?_);rintro l ⟨ad,aa⟩;by_cases D:l<c e.2
  .have s:e.2.getD (l:Int).toNat aB.I=e.2.getD l 0:=M;cases A:df i Y (e.2.getD l 0)with
   |none=>
    have u:fH i Y e=q:=by simp[fH,X' D A]
    refine a' o [(37,f),(56,f)] a ?_ (g.aX (g.dN (bW.zero a ?_)))
    .simp only[U,j,s,A,a2.E,a2.U];grind
    rw[C u];simp
   |some x=>
    have d:=YH (i:=i) (Y:=Y) D;rw[A]at d;have Q:c (nw i Y (e.2.take l))=l:=M;have t:=bS.a0 (nw i Y (e.2.take l)) x;refine a' o [(37,f),(56,m)] a ?_ (g.aB (l+1) a ?_ ?_ ⟨D,λW R=>?_⟩ y)
    .simp only[U,j,s,A,a2.E,a2.U,Q,a8,show ta.bytes=16 from a];grind
    .exact QG
    .exact QG
    grind
  obtain rfl:l=c e.2:=y;have J:=Ya aa;rw[c8];have Q:c (nw i Y e.2)=c e.2:=E;refine a' o [(37,m)] a (by simp only[U,j];simp[w]) (g.aC ?_);cases k:iN (nw i Y e.2)with
  |none=>
   have u:fH i Y e=q:=by simp[fH,J,k]
   refine a' o [(68,f)] a ?_ (g.aX (bW.zero a ?_))
   .simp only[U,bS.E,bS.U,k];simp
   rw[C u];simp
  |some K=>
   have u:fH i Y e=h (e.1,K):=by simp[fH,J,k]
   rw[u]at ae;have O:=bF.a0 p (e.1,K);refine a' o [(68,m)] a ?_ (g.aB (n+1) a ?_ ?_ ⟨w,λW R=>?_⟩ y)
   .simp only[U,j,bS.E,bS.U,k,X,a8,show qC.bytes=32 from a];grind
   .exact QP
   .exact QP
   grind
 obtain rfl:n=c b.2:=y;rw[c8];have G:b.2.all (λe=>(fH i Y e).isSome)=f:=aZ.2 λe F=>by grind[List.mem_iff_getElem]
 refine a' o [(25,m)] a E (g.aC ?_);cases B:dP (fh i Y b.2)with
 |false=>
  refine a' o [(83,f)] a ?_ (g.aw a ?_)
  .simp[bF.E,bF.U,B]
  simp[ev,B]
 |true=>
  refine a' o [(83,m)] a ?_ (g.aw a ?_)
  .simp[bF.E,bF.U,B]
  simp[ev,B,b2,G]
abbrev Hz:bL:=kn db (jH cy) (e3 a2) (λd b a=>r9 ((ev d b a).getD []) (ev d b a).isSome) λ_ b _=>[c b.2<=4000000,∀e∈b.2,c e.2<=4000000]
def aeq:bM r 131 Hz:=.c8 λd e a b=>Xk d e a b.1 b.2
abbrev Ap:=Int×Int
def hs(a:Ap):Bool:=decide (1<=a.1/\a.1<=2)&&decide (1<=a.2/\a.2<=20)
def g1(a:p Ap):Bool:=(aC (c a)).all (λb=>hs (a.getD b (0,0)))&&decide (c a<=9)
abbrev B9(a:Ap):z:=.q (.agg [.c (.int .i64 a.1),.c (.int .i64 a.2)])
def UV(b):Z r 132 [B9 b] [] (bj (hs b)) []:=by
 refine Z.K func132 rfl λi=>?_;have e:a9 r [(24,jQ)]:=.cons kB .nil;by_cases d:1<=b.1/\b.1<=2
 .exact a' e [(6,f)] a (by simp[d]) (g.aw a (by simp[hs,d]))
 exact a' e [(6,m)] a bV (g.aw a (by simp only[U,hs,lG d];simp))
def V5(d):Z r 94 [a3.S d] [] (bj (g1 d)) []:=by
 refine Z.K func94 rfl λn=>?_;have s:=n.S 0 a;have i:a9 r [(132,dm p7 (λe=>bj (hs e)) λ_=>[])]:=.cons (.bb λe _=>UV e) .nil;refine ca i a v ?_;unfold g1;refine g.cc (λb=>b<=c d/\∀l,l<b->hs (d.getD l (0,0))=f) (λb:Nat=>[(0,a3.S d),(3,S b)]) (λ_=>[]) (λb=>c d-b) 0 a E a v ⟨by omega,by omega⟩ ?_;rintro b ⟨p,k⟩;by_cases e:b<c d
 .have o:d.getD b a3.I=d.getD b (0,0):=rfl;cases j:hs (d.getD b (0,0))with
  |false=>
   refine a' i [(7,f),(15,f)] a dD (g.bV (bW.zero a ?_));rw[kL e j];simp
  |true=>
   refine a' i [(7,f),(15,m)] a ?_ (g.b5 (b+1) a E a v ⟨e,iJ k j⟩ y);simp[-al,o,j,e,a8];omega
 obtain rfl:b=c d:=y;refine a' i [(7,m)] a E (g.bu a a ?_);exact ca i a v (g.aw a (by rw[fN.2 k];simp;omega))
abbrev oa:bL:=dm (e3 a3) (λa=>bj (g1 a)) λ_=>[]
def MG:bM r 94 oa:=.bb λa _=>V5 a
def ct(a:p cb):p Int:=a.flatMap λb=>b.2.map (·.1)
def kj(d:α->Int)(b:α)(e:p α)(a:Nat):Bool:=a==0||decide (d (e.getD (a-1) b)<d (e.getD a b))
def nL(d:Int)(a:p cb)(b:Nat):Bool:=ib d (a.getD b (0,[]))&&kj (·.1) (0,[]) a b
def lw(d:Int)(a:cB)(b:Nat):Bool:=decide (1<=(a.2.1.getD b (0,[])).1/\(a.2.1.getD b (0,[])).1<=20)&&kj (·.1) (0,[]) a.2.1 b&&(ev d (a.2.1.getD b (0,[])) a.1).isSome
def h0(b:Int)(a:cB):Bool:=(aC (c a.1)).all (nL b a.1)&&decide (ct a.1).Nodup&&(aC (c a.2.1)).all (lw b a)&&cF b&&g1 a.2.2&&decide (c a.1<=20)
def KD{Y}(a:e<c Y):ct (Y.take (e+1))=ct (Y.take e)++(Y.getD e (0,[])).2.map (·.1):=by rw[ih a (0,[])];simp[ct]
def aaT{Y}(a:¬(ct (Y.take e)).Nodup):¬(ct Y).Nodup:=λb=>a (by
 have:ct Y=ct (Y.take e)++ct (Y.drop e):=Rs
 grind)
abbrev oR(a:cB):an:=.cells 27 [.c (.S m 2 (c a.1) (a2.fn a.1)),.c (.S m 2 (c a.2.1) (bk.fn a.2.1)),.c (.S m 2 (c a.2.2) (a3.fn a.2.2))]
def UM(i)(b)(l)(j:c l.2<=4000000)(n:∀e∈l.2,c e.2<=4000000):Z r 93 [S i,b' b,iR l] [] (bj (ev i l b.1).isSome) []:=by
 refine Z.K func93 rfl λk=>?_;have d:a9 r [(131,Hz)]:=.cons aeq .nil;have o:(l.1,cy.af (c l.2) (cy.fn l.2))=l:=by rw[cy.E]
 refine ca d a bH (g.aw a ?_);simp[cy.E,a2.E]
abbrev G8:bL:=kn db o' (jH cy) (λb d a=>bj (ev b a d.1).isSome) λ_ _ a=>[c a.2<=4000000,∀e∈a.2,c e.2<=4000000]
def adT:bM r 93 G8:=.c8 λb d e a=>UM b d e a.1 a.2
def qf{ae:α->Int}{I}{d}(a:e≠0):kj ae I d e=decide (ae (d.getD (e-1) I)<ae (d.getD e I)):=by unfold kj;grind
def Xu(i)(b)(L:lv b)(P:c b.1<=4000000)(ad:c b.2.1<=4000000):Z r 50 [S i,b' b] [] (bj (h0 i b)) []:=by
 refine Z.K func50 rfl λaN=>?_;have p:a9 r [(92,Hm),(49,uX),(24,jQ),(93,G8),(58,sR),(94,oa)]:=.cons ad_ (.cons zq (.cons kB (.cons adT (.cons wb (.cons MG .nil)))));refine a' p [(1000002,f)] a v (g.bO 5 3 1 a a ?_);refine ca p a v ?_;unfold h0;refine g.aL 2 (λe=>e<=c b.1/\(∀l,l<e->nL i b.1 l=f)/\(ct (b.1.take e)).Nodup/\c (ct (b.1.take e))<=4*e) (λe:Nat=>[(0,S i),(3,aH 0 0),(5,.q (.aq (.r 1 1 (c (ct (b.1.take e))) (aB.fn (ct (b.1.take e)))))),(6,S e)]) (λe=>[oR b,.r 3 1 (c (ct (b.1.take e))) (aB.fn (ct (b.1.take e)))]) (λe=>c b.1-e) 0 a E7 a E7 a ⟨by omega,by omega,by simp[ct],by simp[ct]⟩ ?_;rintro e ⟨K,B,T,aa⟩;by_cases u:e<c b.1
 .have R:=KD u;have N:=aaT (Y:=b.1) (e:=e+1);have A:b.1.getD e a2.I=b.1.getD e (0,[]):=rfl;have k:b.1.getD (e-1) a2.I=b.1.getD (e-1) (0,[]):=rfl;have s:nL i b.1 e=(ib i (b.1.getD e (0,[]))&&kj (·.1) (0,[]) b.1 e):=rfl;have W:=qf (ae:=λj:cb=>j.1) (I:=(0,[])) (d:=b.1) (e:=e);generalize z:b.1.getD e (0,[])=j at *;generalize b.1.getD (e-1) (0,[])=w at *;cases o:ib i j with
  |false=>
   rw[o,sD]at s;refine a' p [(14,f),(25,f),(44,f)] a P2 (g.aX (bW.zero a ?_));rw[kL u s];simp
  |true=>
   have ag:c j.2<=4:=by grind[DM]
   rw[o,fr]at s;cases C:kj (·.1) (0,[]) b.1 e with
   |false=>
    have x:e≠0:=by rintro rfl;cases C
    have J:¬w.1<j.1:=M;refine a' p [(14,f),(25,m),(28,f),(42,f),(44,f)] a QA (g.aX (bW.zero a ?_));rw[kL u (s.trans C)];simp
   |true=>
   rw[C]at s;apply g.cj [(0,S i),(3,aH 0 0),(5,.q (.aq (.r 1 1 (c (ct (b.1.take e))) (aB.fn (ct (b.1.take e)))))),(6,S e),(7,S 0)] [oR b,.r 3 1 (c (ct (b.1.take e))) (aB.fn (ct (b.1.take e)))]
   .intro ab;by_cases x:e=0
    .subst x;refine a' p [(14,f),(25,m),(28,m),(44,m)] a P2 (ab _ _ a ?_);simp
    have J:w.1<j.1:=M;refine a' p [(14,f),(25,m),(28,f),(42,m),(44,m)] a QA (ab _ _ a ?_);simp
   generalize ct (b.1.take e)=n at *;refine g.aL 2 (λl=>l<=c j.2/\(n++(j.2.take l).map (·.1)).Nodup) (λl:Nat=>[(0,S i),(3,aH 0 0),(5,.q (.aq (.r 1 1 (c (n++(j.2.take l).map (·.1))) (aB.fn (n++(j.2.take l).map (·.1)))))),(6,S e),(7,S l)]) (λl=>[oR b,.r 3 1 (c (n++(j.2.take l).map (·.1))) (aB.fn (n++(j.2.take l).map (·.1)))]) (λl=>c j.2-l) 0 a E a E a ⟨by omega,by grind⟩ ?_;rintro l ⟨ah,G⟩;by_cases t:l<c j.2
   .have O:j.2.getD l bI.I=d' j l:=rfl;have cM:n++(j.2.take (l+1)).map (·.1)=(n++(j.2.take l).map (·.1))++[(d' j l).1]:=ii;have V:c (n++(j.2.take l).map (·.1))=c n+l:=M;generalize n++(j.2.take l).map (·.1)=D at *;cases Q:D.contains (d' j l).1 with
    |true=>
     refine a' p [(53,f),(67,f)] a ?_ (g.aX (g.dN (bW.zero a ?_)))
     .simp[-al,-List.contains_eq_mem,A,O,u,t,Q,aB.E,aB.U]
     .have bE:¬(ct b.1).Nodup:=N (by
       have ai:n++j.2.map (·.1)=(n++(j.2.take (l+1)).map (·.1))++(j.2.drop (l+1)).map (·.1):=E
       grind)
      simp[bE]
    |false=>
     have H:=aB.a0 D (d' j l).1;have X:aB.af (c n+l) (aB.fn D)=D:=by rw[<-V];exact aB.E D
     refine a' p [(53,f),(67,m)] a ?_ (g.aB (l+1) a ?_ ?_ ⟨t,?_⟩ y)
     .simp[-al,-List.contains_eq_mem,A,O,u,t,Q,aB.E,aB.U,V,X,a8,show ef.bytes=8 from a];omega
     .exact OJ
     .exact OJ
     grind
   obtain rfl:l=c j.2:=y;rw[c8]at G⊢;refine a' p [(53,m)] a ?_ (g.aC ?_)
   .simp[-al,A,u]
   refine ca p a bH (g.aB (e+1) a ?_ ?_ ⟨u,iJ B s,by grind,by grind⟩ y)
   .rw[R];simp
   rw[R];simp
 obtain rfl:e=c b.1:=y;rw[c8]at T⊢;refine a' p [(14,m)] a E (g.aC ?_);refine ca p a v ?_;rw[fN.2 B,fq T,fr,fr];generalize ct b.1=n;refine g.aL 2 (λe=>e<=c b.2.1/\(∀l,l<e->lw i b l=f)) (λe:Nat=>[(0,S i),(3,aH 0 0),(8,S e)]) (λ_=>[oR b,.r 3 1 (c n) (aB.fn n)]) (λe=>c b.2.1-e) 0 a E a E a ⟨by omega,by omega⟩ ?_;rintro e ⟨K,B⟩;by_cases u:e<c b.2.1
 .have A:b.2.1.getD e bk.I=b.2.1.getD e (0,[]):=rfl;have k:b.2.1.getD (e-1) bk.I=b.2.1.getD (e-1) (0,[]):=rfl;have bd:=L _ (ou (I:=(0,[])) u);have s:lw i b e=(decide (1<=(b.2.1.getD e (0,[])).1/\(b.2.1.getD e (0,[])).1<=20)&&kj (·.1) (0,[]) b.2.1 e&&(ev i (b.2.1.getD e (0,[])) b.1).isSome):=rfl;have W:=qf (ae:=λj:eI=>j.1) (I:=(0,[])) (d:=b.2.1) (e:=e);generalize z:b.2.1.getD e (0,[])=j at *;generalize b.2.1.getD (e-1) (0,[])=w at *;by_cases g7:1<=j.1/\j.1<=20
  rotate_left
  .refine a' p [(85,f),(96,f),(116,f),(126,f)] a ?_ (g.aX (bW.zero a ?_))
   .simp[-al,A,u];omega
   exact j8
  cases C:kj (·.1) (0,[]) b.2.1 e with
  |false=>
   have x:e≠0:=by rintro rfl;cases C
   have J:¬w.1<j.1:=M;refine a' p [(85,f),(96,m),(99,f),(113,f),(116,f),(126,f)] a ?_ (g.aX (bW.zero a ?_))
   .simp[-al,A,k,u,g7,a8];omega
   exact j8
  |true=>
   rw[fq g7,C,fr,fr]at s;cases t:(ev i j b.1).isSome with
   |false=>
    by_cases x:e=0
    .subst x;refine a' p [(85,f),(96,m),(99,m),(116,m),(126,f)] a ?_ (g.aX (bW.zero a ?_))
     .simp[-al,A,u,g7,cy.E,cy.U,a2.E,a2.U,bk.U,a3.U,t,bd.1];grind
     rw[kL u (s.trans t)];simp
    have J:w.1<j.1:=M;refine a' p [(85,f),(96,m),(99,f),(113,m),(116,m),(126,f)] a Q5 (g.aX (bW.zero a ?_));rw[kL u (s.trans t)];simp
   |true=>
    rw[t]at s;by_cases x:e=0
    .subst x;refine a' p [(85,f),(96,m),(99,m),(116,m),(126,m)] a ?_ (g.aB 1 a E E ⟨u,iJ B s⟩ y);simp[-al,A,u,g7,a8,cy.E,cy.U,a2.E,a2.U,bk.U,a3.U,t,bd.1];grind
    have J:w.1<j.1:=M;refine a' p [(85,f),(96,m),(99,f),(113,m),(116,m),(126,m)] a ?_ (g.aB (e+1) a E E ⟨u,iJ B s⟩ y);exact Q5
 obtain rfl:e=c b.2.1:=y;refine a' p [(85,m)] a E (g.aC ?_);rw[fN.2 B,fr];cases b2:cF i
 .exact a' p [(129,m),(134,m)] a me (g.aw a)
 cases F:g1 b.2.2
 .exact a' p [(129,f),(134,m)] a NJ (g.aw a)
 exact a' p [(129,f),(134,f)] a NJ (g.aw a bV)
abbrev BJ:bL:=er db o' (λb a=>bj (h0 b a)) λ_ a=>[lv a,c a.1<=4000000,c a.2.1<=4000000]
def MP:bM r 50 BJ:=.bn λb d a=>Xu b d a.1 a.2.1 a.2.2
def gm(d:Int)(a:p Int×Bool)(b:Int):p Int×Bool:=
 if a.2=f then(if b=d then a else(a.1++[b],f))else if d<=b then(if b=d then(a.1++[d],f)else(a.1++[d,b],f))else(a.1++[b],m)
abbrev fy(d:Int)(b:p Int)(a:Nat):p Int×Bool:=(b.take a).foldl (gm d) ([],m)
def eZ(b:p Int)(a:Int):p Int:=if(b.foldl (gm a) ([],m)).2=f then(b.foldl (gm a) ([],m)).1 else(b.foldl (gm a) ([],m)).1++[a]
def w_{k}{d}(a:e<c d):fy k d (e+1)=gm k (fy k d e) (d.getD e 0):=ii
def w9(k)(d):∀a,a<=c d->(fy k d a).1.length+(if(fy k d a).2=f then 0 else 1)<=a+1
 |0,_=>by simp[fy]
 |a+1,g=>by have:=w9 k d a y;rw[w_ y];generalize fy k d a=b at *;obtain⟨b,e⟩:=b;unfold gm;grind
theorem aaf(d)(k):c (eZ d k)<=c d+1:=by
 have:=w9 k d (c d) (bB _);simp[fy,c8]at this;unfold eZ;split at this<;>rename_i a
 .grind
 grind
def afl{e:Type}(a:c1 e)(d)(l X):bu (c d+1+1) (cg (c d+1) (cg (c d) (a.fn d) λb=>[a.a8 l].getD b []) λb=>[a.a8 X].getD b []) (a.fn (d++[l,X])):=a.e2 d l X
def TA(d)(k)(B:c d<=100000000):Z r 91 [aB.S d,S k] [] (aB.S (eZ d k)) []:=by
 refine Z.K func91 rfl λA=>?_;refine a7 [(1000002,f)] a v (g.bO 5 3 1 a a ?_);refine a0 a v (g.aL 1 (λb=>b<=c d) (λb:Nat=>[(0,aB.S d),(1,S k),(5,.q (.aq (.r 0 1 (fy k d b).1.length (aB.fn (fy k d b).1)))),(6,bj (fy k d b).2),(7,S b)]) (λb=>[.r 3 1 (fy k d b).1.length (aB.fn (fy k d b).1)]) (λb=>c d-b) 0 a NK a NK a y ?_);intro b p;have w:=w9 k d b p;by_cases j:b<c d
 .have s:=w_ (k:=k) j;have I:d.getD (b:Int).toNat aB.I=d.getD b 0:=dD;generalize d.getD b 0=X at *;generalize fy k d b=e at *;obtain⟨e,n⟩:=e;have ae:=λX=>aB.a0 e X;have t:=λx X=>aB.e2 e x X;have z:(c e+1+1)*8<=140737488355328:=M;have fin:∀o,fy k d (b+1)=o->True:=λ_ _=>trivial;have l:c d-(b+1)<c d-b:=y;by_cases i:X=k
  .cases n with
   |true=>
    rw[show gm k (e,f) X=(e,f) by simp[gm,i]]at s;refine a7 [(12,f),(34,m)] a ?_ (g.aB (b+1) a ?_ ?_ j l)
    .simp only[U,I,i,a8];simp;omega
    .rw[s];simp
    rw[s];simp
   |false=>
    rw[show gm k (e,m) X=(e++[k],f) by simp[gm,i]]at s;refine a7 [(12,f),(24,f),(34,m)] a ?_ (g.aB (b+1) a ?_ ?_ j l)
    .simp only[U,I,i,a8,show ef.bytes=8 from a];simp;omega
    .exact PV
    exact PV
  cases n with
  |true=>
   rw[show gm k (e,f) X=(e++[X],f) by simp[gm,i]]at s;refine a7 [(12,f),(34,f)] a ON (g.aB (b+1) a zS ?_ j l);exact zS
  |false=>
   by_cases u:k<=X
   .rw[show gm k (e,m) X=(e++[k,X],f) by simp[gm,i,u]]at s;refine a7 [(12,f),(24,f),(34,f)] a ?_ (g.aB (b+1) a ?_ ?_ j l)
    .simp only[U,I,a8,show ef.bytes=8 from a];simp[i,u];omega
    .exact O5
    exact O5
   rw[show gm k (e,m) X=(e++[X],m) by simp[gm,u]]at s;refine a7 [(12,f),(24,m),(34,f)] a ON (g.aB (b+1) a zS ?_ j l);exact zS
 obtain rfl:b=c d:=y;unfold eZ;simp[fy,c8]at w⊢;generalize d.foldl (gm k) ([],m)=e at *;obtain⟨e,n⟩:=e;have ae:=aB.a0 e k;refine a7 [(12,m)] a E (g.aC ?_);cases n with
 |true=>exact a0 rfl E (g.aw rfl)
 |false=>
  refine a0 a ?_ (g.aw a ?_)
  .simp only[U,show ef.bytes=8 from a];simp at w⊢;omega
  simp[U,kg,dn,dk,gG];and_intros<;>first|exact ae|trivial
abbrev xr:bL:=er (e3 aB) db (λa b=>aB.S (eZ a b)) λa _=>[c a<=100000000]
def Ey:bM r 91 xr:=.bn λb d a=>TA b d a
theorem qw(b):∀a:p Int,c (a.foldl eZ b)<=c b+c a
 |[]=>by simp
 |d::a=>by have:=qw (eZ b d) a;grind[aaf]
def yg{a:Type}(b:a->Int->a)(e:a){d}(g:w<c d):(d.take (w+1)).foldl b e=b ((d.take w).foldl b e) (d.getD w 0):=ii
def gz(a:p m8):p Int:=(ea a).foldl eZ []
theorem tr(d):c (gz d)<=c (ea d):=by
 have:=qw [] (ea d)
 rwa [gI,cZ]at this
def Xg(b)(I:c b.2<=4000000)(F:c (ea b.2)<=4000000):Z r 90 [iR b] [] (aB.S (gz b.2)) []:=by
 refine Z.K func90 rfl λB=>?_;have j:a9 r [(91,xr)]:=.cons Ey .nil;refine ca j a v (g.aL 1 (λe=>e<=c b.2) (λe:Nat=>[(1,aH 0 0),(3,aB.S (gz (b.2.take e))),(4,S e)]) (λ_=>[zi b]) (λe=>c b.2-e) 0 a (by simp[gz,ea]) a E a y ?_);intro e x;by_cases u:e<c b.2
 .have d:b.2.getD e cy.I=b.2.getD e ([],[]):=rfl;have o:=KA u;have z:=KB b.2 (e+1);have D:=tr (b.2.take e);have A:gz (b.2.take (e+1))=(b.2.getD e ([],[])).2.foldl eZ (gz (b.2.take e)):=by simp[gz,o,uE]
  rw[o,dk]at z;generalize b.2.getD e ([],[])=k at *;generalize gz (b.2.take e)=l at *;refine a' j [(11,f)] a g4 (g.aL 1 (λi=>i<=c k.2) (λi:Nat=>[(1,aH 0 0),(3,aB.S ((k.2.take i).foldl eZ l)),(4,S e),(5,S i)]) (λ_=>[zi b]) (λi=>c k.2-i) 0 a E a E a y ?_);intro i C;by_cases n:i<c k.2
  .have s:k.2.getD i aB.I=k.2.getD i 0:=rfl;have t:=yg eZ l n;have w:=qw l (k.2.take i);rw[List.length_take]at w;generalize(k.2.take i).foldl eZ l=jg at *;have p:=aB.E jg;refine a' j [(22,f)] a ?_ (g.aB (i+1) a ?_ ?_ n y)
   .simp[-al,d,s,u,n,p,aB.U,a8];omega
   .rw[t];simp[-al,d,s,p]
   simp
  obtain rfl:i=c k.2:=y;rw[c8,<-A];refine a' j [(22,m)] a dD (g.aC ?_);exact Qa
 obtain rfl:e=c b.2:=y;rw[c8];refine a' j [(11,m)] a E (g.aC ?_);exact ca j a v (g.aw a)
abbrev BD:bL:=dm (jH cy) (λa=>aB.S (gz a.2)) λa=>[c a.2<=4000000,c (ea a.2)<=4000000]
def MI:bM r 90 BD:=.bb λb a=>Xg b a.1 a.2
def hp(a:p eI):p Int:=a.flatMap λb=>ea b.2
def hX(b:p eI):p Int:=b.foldl (λa d=>(gz d.2).foldl eZ a) []
theorem AV{d}(a:e<c d):hp (d.take (e+1))=hp (d.take e)++ea (d.getD e (0,[])).2:=by rw[ih a (0,[])];simp[hp]
def Gl(d)(e):c (hp (d.take e))<=c (hp d):=by
 have a:hp d=hp (d.take e)++hp (d.drop e):=by unfold hp;grind[List.take_append_drop]
 grind
theorem Ks{d}(a:e<c d):hX (d.take (e+1))=(gz (d.getD e (0,[])).2).foldl eZ (hX (d.take e)):=by unfold hX;grind[ih]
def yB(d):∀a,a<=c d->c (hX (d.take a))<=c (hp (d.take a))
 |0,_=>by simp[hX]
 |a+1,e=>by have b:=yB d a y;grind[qw,tr,Ks,AV]
def V'(b)(p:lv b)(N:c b.2.1<=4000000)(O:c (hp b.2.1)<=4000000):Z r 48 [b' b] [] (aB.S (hX b.2.1)) []:=by
 refine Z.K func48 rfl λJ=>?_;have j:a9 r [(91,xr),(90,BD)]:=.cons Ey (.cons MI .nil);refine ca j a v (g.aL 1 (λe=>e<=c b.2.1) (λe:Nat=>[(1,aH 0 0),(3,aB.S (hX (b.2.1.take e))),(4,S e)]) (λ_=>[oR b]) (λe=>c b.2.1-e) 0 a (by simp[hX]) a E a y ?_);intro e n;by_cases u:e<c b.2.1
 .have t:b.2.1.getD e bk.I=b.2.1.getD e (0,[]):=rfl;have D:=p _ (ou (I:=(0,[])) u);have x:=AV u;have C:=Gl b.2.1 (e+1);have M:=yB b.2.1 e n;have p:=Ks u;rw[x,dk]at C;generalize b.2.1.getD e (0,[])=k at *;have F:=tr k.2;generalize hX (b.2.1.take e)=l at *;refine a' j [(12,f)] a ?_ ?_
  .simp[-al,u,t,cy.E,cy.U];omega
  have z:b.2.1.getD (e:Int).toNat bk.I=k:=by rw[c9];exact t
  rw[z,cy.E];refine g.aL 1 (λd=>d<=c (gz k.2)) (λd:Nat=>[(1,aH 0 0),(3,aB.S (((gz k.2).take d).foldl eZ l)),(4,S e),(5,aB.S (gz k.2)),(6,S d)]) (λ_=>[oR b]) (λd=>c (gz k.2)-d) 0 a E a E a y ?_;intro d K;generalize gz k.2=i at *;by_cases o:d<c i
  .have s:i.getD d aB.I=i.getD d 0:=rfl;have A:=yg eZ l o;have B:=qw l (i.take d);rw[List.length_take]at B;generalize(i.take d).foldl eZ l=jg at *;have w:=aB.E jg;refine a' j [(24,f)] a ?_ (g.aB (d+1) a ?_ ?_ o y)
   .simp[-al,s,o,w,aB.U,a8];omega
   .rw[A];simp[-al,s,w]
   simp
  obtain rfl:d=c i:=y;rw[c8,<-p];refine a' j [(24,m)] a E (g.aC ?_);exact Qa
 obtain rfl:e=c b.2.1:=y;rw[c8];refine a' j [(12,m)] a E (g.aC ?_);exact ca j a v (g.aw a)
abbrev BC:bL:=dm o' (λa=>aB.S (hX a.2.1)) λa=>[lv a,c a.2.1<=4000000,c (hp a.2.1)<=4000000]
def MH:bM r 48 BC:=.bb λb a=>V' b a.1 a.2.1 a.2.2
abbrev dR:=cB×p Int×p Int
abbrev fo:=Int×dR×(Int×Int×Int×bD)×p (Int×Int)×p Int
abbrev X7:ri cB:=x' (vd a2) (x' (vd bk) (vd a3))
abbrev CH:ri dR:=x' X7 (x' (vd aB) (vd aB))
abbrev cL(a:c1 α)(b:p α):O:=.c (.S m a.bl (c b) (a.fn b))
abbrev v_(a:dR):p O:=[cL a2 a.1.1,cL bk a.1.2.1,cL a3 a.1.2.2,cL aB a.2.1,cL aB a.2.2]
abbrev gw(a:dR):z:=.q (.agg (v_ a))
abbrev nO(a:fo):p O:=.c (.int .i64 a.1)::(v_ a.2.1++[.c (.int .i64 a.2.2.1.1),.c (.int .i64 a.2.2.1.2.1),.c (.int .i64 a.2.2.1.2.2.1),.c (.V a.2.2.1.2.2.2),cL a3 a.2.2.2.1,cL aB a.2.2.2.2])
abbrev fZ(a:fo):z:=.q (.agg (nO a))
structure p3(b:cB):Prop where
 fP:c b.1<=4000000
 dX:lv b
 fa:c b.2.1<=4000000
 ey:c (hp b.2.1)<=4000000
def nD(a:p cb)(d:p Int)(b:Nat):Bool:=(a.any λe=>e.1==d.getD b 0)&&kj (λg=>g) 0 d b
def hh(b:Int)(a:dR):Bool:=(hX a.1.2.1).all (λd=>a.2.1.contains d)&&(aC (c a.2.2)).all (nD a.1.1 a.2.2)&&h0 b a.1
def R4{d}{a:Int->Bool}:d.all a=(aC (c d)).all λb=>a (d.getD b 0):=by rw[o9,fN,aZ];grind[List.mem_iff_getElem]
def R9{d}{R:cb->Bool}(a:w<c d):(d.take (w+1)).any R=((d.take w).any R||R (d.getD w (0,[]))):=ii
abbrev gn(a:dR):an:=.cells 30 (v_ a)
def XC(i)(b)(o:p3 b.1):Z r 25 [S i,gw b] [] (bj (hh i b)) []:=by
 refine Z.K func25 rfl λJ=>?_;have n:a9 r [(48,BC),(49,uX),(50,BJ)]:=.cons MH (.cons zq (.cons MP .nil));have N:=J.f' 1 a 4 a;have K:=yB b.1.2.1 _ (bB _);rw[c8]at K;have X:=o.ey;refine ca n a ?_ ?_
 .simp[a2.E,a2.U,bk.E,bk.U,a3.E,a3.U,o.dX,o.fa,o.ey]
 rw[bk.E];unfold hh;rw[R4];generalize hX b.1.2.1=l at *;refine g.aL 1 (λe=>e<=c l/\∀k,k<e->b.2.1.contains (l.getD k 0)=f) (λe:Nat=>[(0,S i),(3,aH 0 0),(5,aB.S l),(6,S e)]) (λ_=>[gn b]) (λe=>c l-e) 0 a E a E a ⟨by omega,by omega⟩ ?_;rintro e ⟨A,p⟩;by_cases u:e<c l
 .have t:l.getD e aB.I=l.getD e 0:=rfl;cases x:b.2.1.contains (l.getD e 0)with
  |false=>
   refine a' n [(16,f),(26,f)] a ?_ (g.aX (bW.zero a ?_))
   .simp[-al,-List.contains_eq_mem,t,u,x,aB.E,aB.U]
   rw[kL u x];simp
  |true=>
   refine a' n [(16,f),(26,m)] a ?_ (g.aB (e+1) a E E ⟨u,iJ p x⟩ y);simp[-al,-List.contains_eq_mem,t,u,x,aB.E,aB.U,a8];omega
 obtain rfl:e=c l:=y;rw[fN.2 p,fr];refine a' n [(16,m)] a E (g.aC ?_);refine ca n a v (g.aL 1 (λe=>e<=c b.2.2/\∀k,k<e->nD b.1.1 b.2.2 k=f) (λe:Nat=>[(0,S i),(3,aH 0 0),(7,S e)]) (λ_=>[gn b]) (λe=>c b.2.2-e) 0 a E a E a ⟨by omega,by omega⟩ ?_);rintro e ⟨A,p⟩;by_cases u:e<c b.2.2
 .have t:b.2.2.getD e aB.I=b.2.2.getD e 0:=rfl;have bd:b.2.2.getD (e-1) aB.I=b.2.2.getD (e-1) 0:=rfl;have B:nD b.1.1 b.2.2 e=((b.1.1.any λR=>R.1==b.2.2.getD e 0)&&kj (λD=>D) 0 b.2.2 e):=rfl;have O:=qf (ae:=λD:Int=>D) (I:=0) (d:=b.2.2) (e:=e);generalize b.2.2.getD e 0=s at *;generalize b.2.2.getD (e-1) 0=C at *;refine a' n [(31,f)] a g4 (g.aL 1 (λk=>k<=c b.1.1) (λk:Nat=>[(0,S i),(3,aH 0 0),(7,S e),(8,bj ((b.1.1.take k).any λR=>R.1==s)),(9,S k)]) (λ_=>[gn b]) (λk=>c b.1.1-k) 0 a E a E a y ?_);intro k G;by_cases w:k<c b.1.1
  .have V:=o.fP;have z:b.1.1.getD k a2.I=b.1.1.getD k (0,[]):=rfl;have W:=R9 (R:=λR=>R.1==s) w;generalize b.1.1.getD k (0,[])=R at *;generalize(b.1.1.take k).any (λR=>R.1==s)=j at *;cases j with
   |true=>
    refine a' n [(39,f)] a ?_ (g.aB (k+1) a ?_ ?_ w y)
    .simp[w,a8];omega
    .exact bH
    simp
   |false=>
    refine a' n [(39,f)] a ?_ (g.aB (k+1) a ?_ ?_ w y)
    .simp[-al,u,w,a8];omega
    .exact bH
    simp
  obtain rfl:k=c b.1.1:=y;rw[c8];refine a' n [(39,m)] a E (g.aC ?_);cases F:b.1.1.any (λR=>R.1==s)with
  |false=>
   rw[F,sD]at B;refine a' n [(77,f)] a E (g.aX (bW.zero a ?_));rw[kL u B];simp
  |true=>
   rw[F,fr]at B;by_cases Q:e=0
   .subst Q;refine a' n [(63,m),(77,m)] a ?_ (g.aB 1 a E E ⟨u,iJ p bH⟩ y);simp[a8]
   by_cases T:C<s
   .refine a' n [(63,f),(75,m),(77,m)] a ?_ (g.aB (e+1) a E E ⟨u,iJ p M⟩ y);exact Py
   refine a' n [(63,f),(75,f),(77,f)] a Py (g.aX (bW.zero a ?_));exact j8
 obtain rfl:e=c b.2.2:=y;rw[fN.2 p,fr];refine a' n [(31,m)] a E (g.aC ?_);refine ca n a ?_ (g.aw a ?_)
 .simp[a2.E,a2.U,bk.E,bk.U,a3.E,a3.U,o.dX,o.fa,o.fP]
 simp[a2.E,bk.E,a3.E]
abbrev BK:bL:=er db (Ay CH) (λb a=>bj (hh b a)) λ_ a=>[p3 a.1]
def MR:bM r 25 BK:=.bn λb d a=>XC b d a
theorem aat{b a}(e:d6 b=f)(g:∀d∈a,d∈b):d6 a=f:=by unfold d6 at e⊢;grind
def Lf{o}(g:d6 o=f):∀e a,∀d∈iA o e a,cC d=f
 |0,_,d,b=>by exact bH
 |e+1,a,d,b=>by
  simp only[iA]at b;split at b
  .rename_i i;have j:=rJ o a i;rcases e4.1 b with rfl|b
   .have s:c ((o.drop a).take (en o a-a))=en o a-a:=M;simp[cC,cp,bA];grind[aat]
   exact Lf g e _ d b
  grind
def vN{o}(a:d6 o=f):∀b∈cl o,cC b=f:=Lf a _ _
def Le(o):∀a b,c (iA o a b)<=a
 |0,_=>bB _
 |a+1,b=>by
  simp[iA];split
  .have:=Le o a (en o b);grind
  simp
theorem vM(o):c (cl o)<=c o:=Le o _ _
def eO(b:p c6):p bD:=b.flatMap λa=>cl a.2
def Gp{o}(a:e<c o):eO (o.take (e+1))=eO (o.take e)++cl (o.getD e ([],[])).2:=by rw[ih a ([],[])];simp[eO]
def Gn(o)(e):c (eO (o.take e))<=c (eO o):=by
 have a:eO o=eO (o.take e)++eO (o.drop e):=by unfold eO;grind[List.take_append_drop]
 grind
def CX(i)(d)(Y):∀a:p bD,c (Y.foldl (e1 i d) a)<=c a+c Y:=by
 induction Y with
 |nil=>grind
 |cons b k e=>
  intro a;have g:=e (e1 i d a b);have j:c (e1 i d a b)<=c a+1:=by unfold e1;split<;>simp
  grind
abbrev G7:bL:=er (e3 e6) db (λa b=>S (iT a b)) λa _=>[c a<=4000000]
def adR:bM r 185 G7:=.bn λb d a=>UC b d a
abbrev G':bL:=er (e3 bS) eE (λa b=>bj (a.contains b)) λa _=>[c a<=4000000]
def adX:bM r 186 G':=.bn λb d a=>Va b d a
abbrev Ij(a:p bD):z:=.q (.aq (.r 0 1 (c a) (bS.fn a)))
structure rj(o:p c6):Prop where
 len:c o<=4000000
 fo:∀ae∈o,d6 ae.2=f/\c ae.2<=4000000
 all:c (eO o)<=100000
def Wl(i)(o)(d)(p:cF i=f)(u:rj o)(T:c d<=4000000):Z r 142 [S i,bF.S o,e6.S d] [] (bS.S (fS i o d)) []:=by
 refine Z.K func142 rfl λO=>?_;have l:a9 r [(184,xt),(174,xz),(185,G7),(186,G')]:=.cons Ez (.cons zr (.cons adR (.cons adX .nil)));refine bg l [(1000002,f)] a v (g.bO 7 9 1 a a ?_);refine cO l a v (g.aL 1 (λb=>b<=c o) (λb:Nat=>[(0,S i),(1,bF.S o),(2,e6.S d),(7,Ij ((eO (o.take b)).foldl (e1 i d) [])),(8,S b)]) (λb=>[.r 9 1 (c ((eO (o.take b)).foldl (e1 i d) [])) (bS.fn ((eO (o.take b)).foldl (e1 i d) []))]) (λb=>c o-b) 0 a ?_ a ?_ a y ?_)
 .simp[eO]
 .simp[eO]
 intro b C;by_cases B:b<c o
 .have Q:o.getD (b:Int).toNat bF.I=o.getD b ([],[]):=M;have A:o.getD b ([],[])∈o:=M;obtain⟨R,J⟩:=u.fo _ A;have D:=Gp B;have K:=Gn o (b+1);have V:=u.all;have W:=u.len;have I:=vN R;generalize o.getD b ([],[])=k at *;rw[D,dk]at K;refine bg l [(15,f)] a dD ?_;rw[Q];refine g.aL 1 (λe=>e<=c (cl k.2)) (λe:Nat=>[(0,S i),(1,bF.S o),(2,e6.S d),(7,Ij ((eO (o.take b)++(cl k.2).take e).foldl (e1 i d) [])),(8,S b),(9,bS.S (cl k.2)),(10,S e)]) (λe=>[.r 9 1 (c ((eO (o.take b)++(cl k.2).take e).foldl (e1 i d) [])) (bS.fn ((eO (o.take b)++(cl k.2).take e).foldl (e1 i d) []))]) (λe=>c (cl k.2)-e) 0 a E a E a y ?_;intro e z;have F:=CX i d (eO (o.take b)++(cl k.2).take e) [];simp only[gI,dk,List.length_take]at F;by_cases N:e<c (cl k.2)
  .have j:(cl k.2).getD (e:Int).toNat bS.I=(cl k.2).getD e []:=M;have s:cC ((cl k.2).getD e [])=f:=I _ M;have n:(eO (o.take b)++(cl k.2).take (e+1)).foldl (e1 i d) []=e1 i d ((eO (o.take b)++(cl k.2).take e).foldl (e1 i d) []) ((cl k.2).getD e []):=ii;generalize(eO (o.take b)++(cl k.2).take e).foldl (e1 i d) []=dy at *;generalize(cl k.2).getD e []=w at *;have x:=bS.a0 dy w;by_cases t:iT d (d8 i w)=0
   .cases ab:dy.contains w with
    |true=>
     rw[e1,bm M]at n;refine bg l [(27,f),(38,f),(45,f)] a ?_ (g.aB (e+1) a ?_ ?_ ?_ ?_)
     .simp only[U,j,p,s,t,ab,a8,bS.E,e6.E,gh,bA,bb,a_];exact QE
     .rw[n];simp
     .rw[n];simp
     .grind
     omega
    |false=>
     rw[e1,bs M]at n;refine bg l [(27,f),(38,f),(45,m)] a ?_ (g.aB (e+1) a ?_ ?_ ?_ ?_)
     .simp only[U,j,p,s,t,ab,a8,show ta.bytes=16 from a,bS.E,e6.E,gh,bA,bb,a_];exact QE
     .rw[n];simp only[U.Z,U,j,dk,fp,gI,bb,a_];and_intros<;>first|exactλ_ _=>rfl|exact x|rfl|omega
     .rw[n];simp only[U.Z,U,j,dk,fp,gI,bb,a_];and_intros<;>first|exact x|rfl|omega
     .grind
     omega
   rw[e1,bm M]at n;refine bg l [(27,f),(38,m)] a ?_ (g.aB (e+1) a ?_ ?_ ?_ ?_)
   .simp only[U,j,p,s,a8,e6.E,eY,d_,t,qe,bA,bb,a_];and_intros<;>first|exact e6.U _|omega
   .rw[n];simp
   .rw[n];simp
   .grind
   omega
  have X:e=c (cl k.2):=y;refine bg l [(27,m)] a bw (g.aC ?_);exact cO l a bH (g.aB (b+1) a dD dD M y)
 obtain rfl:b=c o:=y;rw[c8];refine bg l [(15,m)] a E (g.aC ?_);refine cO l a v (g.aw a ?_);simp[fS,eO]
abbrev kv(b:Int)(a:p bD):p Int:=a.map (d8 b)
abbrev oC(a:Int)(b:p c6):p m8:=b.map (kS a)
abbrev KP(b:Int)(a:p m8):p an:=[.cells 96 [.c (.int .i64 0),.c (.S f 0 0 λ_=>[])],.cells 96 [.c (.int .i64 b),.r 2 2 (c a) (cy.fn a)],.r 148 2 (c a) (cy.fn a)]
def Ws(bO i)(o)(n:cF i=f)(u:rj o):Z r 145 [S bO,S i,bF.S o] [] (iR (fT bO i o)) []:=by
 refine Z.bp be func145 rfl rfl rfl λT=>?_;have k:a9 r [(184,xt),(174,xz)]:=.cons Ez (.cons zr .nil);refine bg k [(1000002,f)] a v (g.cm 1 1 148 2 (cy.fn []) a a ?_);refine cO k a v (g.aL 3 (λe=>e<=c o) (λe:Nat=>[(1,S i),(2,bF.S o),(6,aH 0 0),(7,aH 1 0),(8,S e)]) (λe=>KP bO (oC i (o.take e))) (λe=>c o-e) 0 a E a E a y ?_);intro e A;by_cases K:e<c o
 .have t:o.getD (e:Int).toNat bF.I=o.getD e ([],[]):=M;have z:o.getD e ([],[])∈o:=M;obtain⟨I,F⟩:=u.fo _ z;have R:=u.len;have C:=vN I;have Q:=vM (o.getD e ([],[])).2;have p:oC i (o.take (e+1))=oC i (o.take e)++[kS i (o.getD e ([],[]))]:=ii;have O:c (oC i (o.take e))=e:=M;generalize o.getD e ([],[])=b at *;generalize oC i (o.take e)=l at *;refine bg k [(18,f),(1000007,f)] a dD ?_;rw[t];refine g.bO 10 3 1 a a ?_;refine cO k a v (g.aL 4 (λd=>d<=c (cl b.2)) (λd:Nat=>[(1,S i),(2,bF.S o),(6,aH 0 0),(7,aH 1 0),(8,S e),(9,bS.S (cl b.2)),(10,.q (.aq (.r 3 1 d (aB.fn (kv i ((cl b.2).take d)))))),(11,S d)]) (λd=>KP bO l++[.r 3 1 d (aB.fn (kv i ((cl b.2).take d)))]) (λd=>c (cl b.2)-d) 0 a E a E a y ?_);intro d x;by_cases V:d<c (cl b.2)
  .have j:(cl b.2).getD (d:Int).toNat bS.I=(cl b.2).getD d []:=M;have B:cC ((cl b.2).getD d [])=f:=C _ M;have s:=aB.a0 (kv i ((cl b.2).take d)) (d8 i ((cl b.2).getD d []));rw[show(kv i ((cl b.2).take d)).length=d by grind,show kv i ((cl b.2).take d)++[d8 i ((cl b.2).getD d [])]=kv i ((cl b.2).take (d+1)) by grind[ih]]at s;refine bg k [(31,f)] a ?_ (g.aB (d+1) a ?_ ?_ ?_ ?_)
   .simp only[U,j,n,B,a8,show ef.bytes=8 from a,bA,bb,a_];exact fv
   .exact PD
   .exact PD
   .grind
   omega
  have D:d=c (cl b.2):=y;rw[D,c8];have s:=cy.a0 l (kS i b);have w:c l+1=c (l++[kS i b]):=E;have J:cy.a8 (kS i b)=[N.V b.1,N.S m 1 (c (cl b.2)) (aB.fn (kv i (cl b.2)))]:=by show[N.V b.1,N.S m 1 (c (kv i (cl b.2))) (aB.fn (kv i (cl b.2)))]=_;grind
  rw[J,<-p]at s;rw[<-p]at w;refine bg k [(31,m)] a E (g.aC ?_);refine cO k a OA (g.aB (e+1) a E ?_ ?_ ?_)
  .simp only[U.Z,U,t,bb,a_];and_intros<;>first|exact bu.same|exact s|exact w|rfl
  .grind
  omega
 obtain rfl:e=c o:=y;rw[c8];refine bg k [(18,m)] a E (g.aC ?_);refine cO k a v (g.bj () [] ?_ (λd x=>absurd x E));simp[fT]
def pa(b a:Nat->p N):cg 0 b a=a:=by funext e;simp[cg]
abbrev j1(a:cB):an:=.cells 27 [.c (.S m 2 (c a.1) (a2.fn a.1)),.c (.S m 2 (c a.2.1) (bk.fn a.2.1)),.c (.S m 2 (c a.2.2) (a3.fn a.2.2))]
abbrev B5(a:cB)(b:Nat)(e:p cb)(d:Nat)(g:p eI):p an:=[j1 a,.cells 27 [cG,cG,cG],.h 89 2 b (a2.fn e),.h 96 2 d (bk.fn g),.h 146 2 (c a.2.2) (a3.fn a.2.2),.cells 27 [.R 2 (.S b 2 0 b),.R 3 (.S d 2 0 d),.R 4 (.S (c a.2.2) 2 0 (c a.2.2))]]
def T'(b)(z:c b.1<=4000000)(t:∀w∈b.1,c w.2<=4000000)(F:c b.2.1<=4000000)(s:lv b)(D:c b.2.2<=4000000):
  Z r 69 [b' b] [] (.q (.agg [.R 0 (.S (c b.1) 2 0 (c b.1)),.R 1 (.S (c b.2.1) 2 0 (c b.2.1)),.R 2 (.S (c b.2.2) 2 0 (c b.2.2))])) [.h 89 2 (c b.1) (a2.fn b.1),.h 96 2 (c b.2.1) (bk.fn b.2.1),.h 146 2 (c b.2.2) (a3.fn b.2.2)]:=by
 refine Z.bp be func69 rfl rfl rfl λB=>?_;refine bR [(1000001,f)] a v (g.region ?_);refine gR [] 5 a v (g.dK 9 89 2 (a2.fn []) a ?_);refine g.dK 10 96 2 (bk.fn []) a ?_;refine g.dK 11 146 2 (a3.fn []) a ?_;refine cx a P_ (g.aL 6 (λd=>d<=c b.1) (λd:Nat=>[(1,aH 0 0),(2,aH 1 0),(3,aH 5 0),(4,S d)]) (λd=>B5 b d (b.1.take d) 0 []) (λd=>c b.1-d) 0 a E a ?_ a y ?_)
 .simp[bu,pa];rfl
 intro d n;by_cases l:d<c b.1
 .have k:b.1.getD d (0,[])∈b.1:=M;have x:b.1.getD (d:Int).toNat a2.I=b.1.getD d (0,[]):=M;have p:=t _ k;refine bR [(20,f),(2000038,f)] a Fq (g.aB (d+1) a E ?_ ?_ ?_)
  .have ai:=a2.cX b.1 l (0,[]);exact NZ
  .grind
  omega
 obtain rfl:d=c b.1:=y;rw[c8];refine bR [(20,m)] a E (g.aC ?_);refine cx a v (g.aL 6 (λd=>d<=c b.2.1) (λd:Nat=>[(1,aH 0 0),(2,aH 1 0),(3,aH 5 0),(5,S d)]) (λd=>B5 b (c b.1) b.1 d (b.2.1.take d)) (λd=>c b.2.1-d) 0 a E a E a y ?_);intro d n;by_cases l:d<c b.2.1
 .have k:b.2.1.getD d (0,[])∈b.2.1:=M;have x:b.2.1.getD (d:Int).toNat bk.I=b.2.1.getD d (0,[]):=M;have p:=s _ k;have ai:=bk.cX b.2.1 l (0,[]);generalize b.2.1.getD d (0,[])=i at *;refine bR [(47,f),(1000010,f)] a bw ?_;rw[x];refine g.cm 6 1 148 2 (cy.fn []) a a ?_;refine cx a v (g.aL 8 (λe=>e<=c i.2) (λe:Nat=>[(1,aH 0 0),(2,aH 1 0),(3,aH 5 0),(5,S d),(6,aH 6 0),(7,S e)]) (λe=>B5 b (c b.1) b.1 d (b.2.1.take d)++[.cells 96 [.c (.int .i64 i.1),.r 7 2 e (cy.fn (i.2.take e))],.r 148 2 e (cy.fn (i.2.take e))]) (λe=>c i.2-e) 0 a E a E a y ?_);intro e o;by_cases u:e<c i.2
  .have j:i.2.getD (e:Int).toNat cy.I=i.2.getD e ([],[]):=M;have C:=p.2 (i.2.getD e ([],[])) M;have A:=cy.cX i.2 u ([],[]);refine bR [(66,f),(2000085,f)] a OM (g.aB (e+1) a E P6 M ?_);omega
  obtain rfl:e=c i.2:=y;rw[c8];refine bR [(66,m)] a Fo (g.aC ?_);refine cx a Fk (g.aB (d+1) a E Fz M ?_);omega
 obtain rfl:d=c b.2.1:=y;rw[c8];refine bR [(47,m)] a E (g.aC ?_);refine cx a v (g.bj () [2,3,4] ?_ (λe o=>absurd o E));simp
def yC{e j}(A)(k:t.op=.call {callee:=.builtin .max,args:=#[l,X],argTypes:=du})(u:η l=S e)(r:η X=S j)(x:max e j=A)(s:a8 .i64 A):a1 V t η n (S A) n:=by refine .aZ λz d y g=>?_;have b:=g l;have a:=g X;rw[u]at b;rw[r]at a;replace b:=b8 b;replace a:=b8 a;generalize i:d l=v at b;generalize o:d X=w at a;cases b;cases a;have p:(if e<j then j else e)=A:=M;exact⟨.int .i64 A,by simp[ac,k,resolve,invoke,builtin,i,o,Builtin.max_,Builtin.max2,p],.int s,by simp[ac,k,resolve,invoke,builtin,i,o,Builtin.max_,Builtin.max2]⟩
def di(a:cB):Int:=if c a.1=0 then 1 else(a.1.getD (c a.1-1) (0,[])).1+1
def lY(b:p (Int×Int)):Int:=b.foldl (λd a=>max d (a.2+1)) 1
def dv(a:cB):Int:=if c a.2.1=0 then lY a.2.2 else max (lY a.2.2) ((a.2.1.getD (c a.2.1-1) (0,[])).1+1)
structure ml(b9:cB):Prop where
 a1:∀l∈b9.1,-4000000<=l.1/\l.1<=4000000
 bm:∀l∈b9.2.1,-4000000<=l.1/\l.1<=4000000
 aN:∀l∈b9.2.2,-4000000<=l.2/\l.2<=4000000
def s_(d)(e:∀b∈d,-4000000<=b.2/\b.2<=4000000):1<=lY d/\lY d<=4000001:=by
 have:∀(d:p (Int×Int)) a,(∀b∈d,-4000000<=b.2/\b.2<=4000000)->1<=a->a<=4000001->1<=d.foldl (λa e=>max a (e.2+1)) a/\d.foldl (λa e=>max a (e.2+1)) a<=4000001:=by
  intro d;induction d with
  |nil=>grind
  |cons b i g=>
   grind
 exact this d 1 e y y
def YM{d}(a:e<c d):lY (d.take (e+1))=max (lY (d.take e)) ((d.getD e (0,0)).2+1):=by unfold lY;grind[ih]
def mG{d:p α}(b:e<c d)(a:α):d.getD e a∈d:=M
def Wn(b:cB)(j:dQ b)(i:ml b):Z r 141 [b' b] [] (.Q [.aq (.c (.int .i64 (di b))),.aq (.c (.int .i64 (dv b)))]) []:=by
 refine Z.K func141 rfl λz=>?_;have u:=j.a1;have w:=j.a4;have t:=j.aN;apply g.cj [(1,aH 0 0),(4,S (di b)),(5,S 1)] [j1 b]
 .intro dy;by_cases e:c b.1=0
  .exact bR [(10,m),(1000005,f)] a dD (dy _ _ a (by simp[di,e]))
  have k:=i.a1 _ (mG (show c b.1-1<c b.1 by omega) (0,[]));have x:b.1.getD ((c b.1:Int)-1).toNat a2.I=b.1.getD (c b.1-1) (0,[]):=by rw[show((c b.1:Int)-1).toNat=c b.1-1 by omega];rfl
  exact bR [(10,f),(1000005,f)] a wu (dy _ _ a (by simp only[U.Z,U,di,bm e,x,bb,a_]))
 refine cx a v (g.aL 1 (λd=>d<=c b.2.2) (λd:Nat=>[(1,aH 0 0),(4,S (di b)),(5,S (lY (b.2.2.take d))),(6,S d)]) (λd=>[j1 b]) (λd=>c b.2.2-d) 0 a ?_ a ?_ a y ?_)
 .simp[lY]
 .simp
 intro d l;by_cases e:d<c b.2.2
 .have k:=i.aN _ (mG e (0,0));have o:=s_ (b.2.2.take d) λs p=>i.aN s (gV p);have x:b.2.2.getD (d:Int).toNat a3.I=b.2.2.getD d (0,0):=M;have n:=YM e;refine bR [(25,f)] a wu ?_;rw[x];refine g.aO (yC (lY (b.2.2.take (d+1))) a a a n.symm nT) a a ?_;exact cx a bH (g.aB (d+1) a E E M y)
 obtain rfl:d=c b.2.2:=y;rw[c8];refine bR [(25,m)] a E (g.aC ?_);have o:=s_ b.2.2 i.aN;by_cases e:c b.2.1=0
 .refine bR [(40,m)] a dD (g.aw a ?_);simp[dv,e]
 have k:=i.bm _ (mG (show c b.2.1-1<c b.2.1 by omega) (0,[]));have x:b.2.1.getD ((c b.2.1:Int)-1).toNat bk.I=b.2.1.getD (c b.2.1-1) (0,[]):=Rg;refine bR [(40,f)] a wu ?_;rw[x];refine g.aO (yC (dv b) a a a (by rw[dv,bm e]) (by rw[dv,bm e];simp only[a8];omega)) a a ?_;exact cx a v (g.aw a)
abbrev B6(a:cB)(b:Nat)(e:p cb)(d:Nat)(g:p eI):p an:=[j1 a,.cells 27 [cG,cG,cG],.r 146 2 (c a.2.2) (a3.fn a.2.2),.cells 27 [.r 4 2 b (a2.fn e),.r 5 2 d (bk.fn g),.r 2 2 (c a.2.2) (a3.fn a.2.2)],.r 89 2 b (a2.fn e),.r 96 2 d (bk.fn g)]
def qs(b)(z:c b.1<=4000000)(t:∀w∈b.1,c w.2<=4000000)(F:c b.2.1<=4000000)(s:lv b)(D:c b.2.2<=4000000):
  Z r 69 [b' b] [] (.q (.agg [.r 0 2 (c b.1) (a2.fn b.1),.r 1 2 (c b.2.1) (bk.fn b.2.1),.r 2 2 (c b.2.2) (a3.fn b.2.2)])) [.r 89 2 (c b.1) (a2.fn b.1),.r 96 2 (c b.2.1) (bk.fn b.2.1),.r 146 2 (c b.2.2) (a3.fn b.2.2)]:=by
 refine Z.bp be func69 rfl rfl rfl λB=>?_;refine bR [(1000002,f)] a ?_ ?_
 .simp only[U,show s'.bytes=16 from a,bb,a_,lF];grind
 refine g.cm 3 0 89 2 (a2.fn []) a a ?_;refine g.cm 3 1 96 2 (bk.fn []) a a ?_;refine cx a v (g.aL 6 (λd=>d<=c b.1) (λd:Nat=>[(1,aH 0 0),(2,aH 1 0),(3,aH 3 0),(4,S d)]) (λd=>B6 b d (b.1.take d) 0 []) (λd=>c b.1-d) 0 a E a ?_ a y ?_)
 .simp[bu,pa]
 intro d n;by_cases l:d<c b.1
 .have k:b.1.getD d (0,[])∈b.1:=M;have x:b.1.getD (d:Int).toNat a2.I=b.1.getD d (0,[]):=M;have p:=t _ k;refine bR [(20,f),(2000038,f)] a Fq (g.aB (d+1) a E ?_ ?_ ?_)
  .have ai:=a2.cX b.1 l (0,[]);simp only[U.Z,U,x,pa,cZ,a_,bb];exact QM
  .grind
  omega
 obtain rfl:d=c b.1:=y;rw[c8];refine bR [(20,m)] a E (g.aC ?_);refine cx a v (g.aL 6 (λd=>d<=c b.2.1) (λd:Nat=>[(1,aH 0 0),(2,aH 1 0),(3,aH 3 0),(5,S d)]) (λd=>B6 b (c b.1) b.1 d (b.2.1.take d)) (λd=>c b.2.1-d) 0 a E a E a y ?_);intro d n;by_cases l:d<c b.2.1
 .have k:b.2.1.getD d (0,[])∈b.2.1:=M;have x:b.2.1.getD (d:Int).toNat bk.I=b.2.1.getD d (0,[]):=M;have p:=s _ k;have ai:=bk.cX b.2.1 l (0,[]);generalize b.2.1.getD d (0,[])=i at *;refine bR [(47,f),(1000010,f)] a bw ?_;rw[x];refine g.cm 6 1 148 2 (cy.fn []) a a ?_;refine cx a v (g.aL 8 (λe=>e<=c i.2) (λe:Nat=>[(1,aH 0 0),(2,aH 1 0),(3,aH 3 0),(5,S d),(6,aH 6 0),(7,S e)]) (λe=>B6 b (c b.1) b.1 d (b.2.1.take d)++[.cells 96 [.c (.int .i64 i.1),.r 7 2 e (cy.fn (i.2.take e))],.r 148 2 e (cy.fn (i.2.take e))]) (λe=>c i.2-e) 0 a E a E a y ?_);intro e o;by_cases u:e<c i.2
  .have j:i.2.getD (e:Int).toNat cy.I=i.2.getD e ([],[]):=M;have C:=p.2 (i.2.getD e ([],[])) M;have A:=cy.cX i.2 u ([],[]);refine bR [(66,f),(2000085,f)] a OM (g.aB (e+1) a E P6 M ?_);omega
  obtain rfl:e=c i.2:=y;rw[c8];refine bR [(66,m)] a Fo (g.aC ?_);refine cx a Fk (g.aB (d+1) a E ?_ ?_ ?_)
  .simp only[U.Z,U,a_,bb];exact QM
  .grind
  omega
 obtain rfl:d=c b.2.1:=y;rw[c8];refine bR [(47,m)] a E (g.aC ?_);refine cx a v (g.bj () [4,5,2] ?_ (λe o=>absurd o E));simp
def _root_.Go.AM.c1.hs(a:c1 α)(d)(g:bu k T (a.fn d))(l:k<=c d):a.af k T=d.take k:=by
 apply ru
 .simp[c1.af];omega
 intro e i j;have b:e<k:=M;simp[c1.af,g e b,c1.fn,gB,al,bK (show e<c d by omega),a.inv]
def _root_.Go.AM.c1.hd(a:c1 α)(d)(g:bu k T (a.fn d)):a.bW k T:=λe b=>by rw[g e b];exact a.U d e (Nat.lt_succ_self e)
def aaO(a b:Nat):min (a:Int) (b:Int)=((min a b:Nat):Int):=M
def f'(d:Int):Nat->Int->p bD->p cb
 |0,_,_=>[]
 |e+1,b,a=>if 0<c a then jY b d (a.take 4)::f' d e (b+1) (a.drop 4)else[]
def ku(a:Int)(b:cB)(d:p c6):p cb:=f' a (c (fS a d (eA b.1))) (di b) (fS a d (eA b.1))
def fs(b:Int)(a:cB)(d:p c6):Bool:=decide (20<c a.1+c (ku b a d))||(decide (99<di a+c (ku b a d)-1)||(decide (20<dv a)||decide (9<=c a.2.2)))
def ft(d:Int)(a:cB)(b:Int)(e:p c6):cB:=(a.1++ku d a e,a.2.1++[fT (dv a) d e],a.2.2++[(b,dv a)])
theorem K4(i):∀d a b,c (f' i d a b)<=d
 |0,_,_=>bB _
 |d+1,a,b=>by
  simp[f'];split
  .have:=K4 i d (a+1) (b.drop 4);grind
  simp
abbrev Hi:bL:=kn db db (e3 bS) (λd b a=>fG (jY d b a)) λ_ b a=>[cF b=f,∀e∈a,cC e=f,c a<=4000000]
def ad6:bM r 144 Hi:=.c8 λb e d a=>V8 b e d a.1 a.2.1 a.2.2
abbrev Hl:bL:=kn db db (e3 bF) (λb a d=>iR (fT b a d)) λ_ a d=>[cF a=f,rj d]
def ad9:bM r 145 Hl:=.c8 λa d e b=>Ws a d e b.1 b.2
abbrev Hk:bL:=kn db (e3 bF) (e3 e6) (λa d b=>bS.S (fS a d b)) λa d b=>[cF a=f,rj d,c b<=4000000]
def ad8:bM r 142 Hk:=.c8 λb e d a=>Wl b e d a.1 a.2.1 a.2.2
def qW{o}{d}(j:rj o):(∀a∈fS i o d,cC a=f)/\c (fS i o d)<=100000:=by
 constructor
 .have:∀(b g:p bD),(∀a∈b,cC a=f)->(∀a∈g,cC a=f)->∀a∈b.foldl (e1 i d) g,cC a=f:=by
   intro b;induction b with
   |nil=>grind
   |cons t u l=>
    intro g s r;refine l _ (λa e=>s a (mt _ e)) λa e=>?_;unfold e1 at e;grind
  refine this _ [] (λa e=>?_) E;obtain⟨n,k,e⟩:=rr.1 e;exact vN (j.fo n k).1 a e
 have:=CX i d (eO o) [];have r:=j.all;unfold fS;simp[gI]at this;exact fM this y
theorem J7{d}(a:c (dH d)<=100000):c (eA d)<=100000:=by unfold eA;grind[CY]
abbrev acj(e b d:Int)(g:cB)(i:p c6)(a:p bD):bJ:=[(0,S e),(2,S b),(3,bF.S i),(5,aH 0 0),(8,aH 1 0),(10,aH 5 0),(11,S d),(12,S (dv g)),(13,bS.S a)]
abbrev LZ(b:cB)(a:p cb):p an:=[j1 b,.cells 27 [cG,cG,cG],.r 89 2 (c a) (a2.fn a),.r 96 2 (c b.2.1) (bk.fn b.2.1),.r 146 2 (c b.2.2) (a3.fn b.2.2),.cells 27 [.r 2 2 (c a) (a2.fn a),.r 3 2 (c b.2.1) (bk.fn b.2.1),.r 4 2 (c b.2.2) (a3.fn b.2.2)]]
abbrev MO(a:cB)(b:Bool):z:=.Q [.agg [.c (.S m 2 (c a.1) (a2.fn a.1)),.c (.S m 2 (c a.2.1) (bk.fn a.2.1)),.c (.S m 2 (c a.2.2) (a3.fn a.2.2))],.aq (.c (.bool b))]
def W1(i)(b)(k)(o)(B:cF i=f)(x:dQ b)(I:ml b)(K:rj o)(ak:c (dH b.1)<=100000):
  Z r 107 [S i,b' b,S k,bF.S o] [] (MO (if fs i b o=f then b else ft i b k o) (!fs i b o)) []:=by
 refine Z.bG func107 rfl rfl rfl λau=>?_;have s:a9 r [(143,G_),(142,Hk),(144,Hi),(145,Hl)]:=.cons adW (.cons ad8 (.cons ad6 (.cons ad9 .nil)));have aN:=x.a1;have P:=x.a4;have av:=x.aN;have ax:=J7 ak;refine cO s a v (g.aF (qs b x.a1 x.bs x.a4 x.bB x.aN) [] a (cO s a v (g.aF (Wn b x I) [] a (cO s a bH ?_))));simp[a2.E,e6.E,bF.E];obtain⟨an,az⟩:=qW (i:=i) (d:=eA b.1) K;have aw:ku i b o=f' i (c (fS i o (eA b.1))) (di b) (fS i o (eA b.1)):=rfl;generalize fS i o (eA b.1)=C at *;generalize T:ku i b o=e at *;have L:-4000000<=di b/\di b<=4000001:=by
  unfold di;split
  .omega
  rename_i u;exact QY
 have H:c e<=100000:=by grind[K4]
 refine g.cl (S2:=Unit) 0 a a (λ_=>True) (λ_=>[(0,S i),(2,S k),(3,bF.S o),(5,aH 0 0),(8,aH 1 0),(10,aH 5 0),(11,S (di b+c e)),(12,S (dv b))]) (λ_=>LZ b (b.1++e)) 6
  (λl:p bD×p cb=>(∀R∈l.1,cC R=f)/\c l.2+c l.1<=5000000/\c b.1<=c l.2/\∃n,c l.1<=n/\b.1++e=l.2++f' i n (di b+(c l.2-c b.1:Nat)) l.1) (λl=>acj i k (di b+(c l.2-c b.1:Nat)) b o l.1) (λl=>LZ b l.2) (λl=>c l.1) (C,b.1) a ?_ a ?_ a ⟨an,by grind,bB _,c C,bB _,by grind⟩ ?_ ?_
 .simp
 .simp
 .rintro dy ⟨bt,Y⟩ ⟨w,O,ae,n,G,A⟩;simp only at w O ae G A;by_cases u:0<c bt
  .obtain⟨n,rfl⟩:∃aa,n=aa+1:=⟨n-1,by omega⟩
   simp[f',bs u]at A;have ad:a8 .i64 ((min (c bt) 4:Nat):Int):=nT;refine bg s [(30,f)] a bw (g.aO (yF ((min (c bt) 4:Nat):Int) a a a (aaO (c bt) 4) ad) a a ?_);have Q:bS.af (bT (c bt) (h ((min (c bt) 4:Nat):Int))-bT 0 q) (fB (bT 0 q) (bS.fn bt))=bt.take 4:=by have E:bT (c bt) (h ((min (c bt) 4:Nat):Int))-bT 0 q=min (c bt) 4:=wG;rw[E,bS.hs bt (λJ t=>by simp[fB,bT]) y];grind
   have X:bS.bW (bT (c bt) (h ((min (c bt) 4:Nat):Int))-bT 0 q) (fB (bT 0 q) (bS.fn bt)):=bS.hd bt (λJ t=>by simp[fB,bT]);have ao:bu (c bt-min (c bt) 4) (fB (min (c bt) 4) (bS.fn bt)) (bS.fn (bt.drop 4)):=by intro J t;have V:min (c bt) 4=4:=y;rw[V];simp[fB,c1.fn,gB,al,p_]
   have aq:∀R∈bt.take 4,cC R=f:=λR D=>w R (gV D);have ab:=a2.a0 Y (jY (di b+(c Y-c b.1:Nat)) i (bt.take 4));refine cO s a ?_ (g.aB (bt.drop 4,Y++[jY (di b+(c Y-c b.1:Nat)) i (bt.take 4)]) a ?_ ?_ ?_ ?_)
   .simp only[U,a8,Q,B,X,List.length_take,show nz.bytes=32 from a,bb,a_];and_intros<;>first|omega|omega
   .simp only[U.Z,U,dk,fp,gI,sv,bT,c9,bb,a_];and_intros<;>first|rfl|omega|simp|exact ao
   .simp only[U.Z,U,Q,dk,fp,gI,bb,a_];and_intros<;>first|rfl|exactλ_ _=>rfl|exact ab|omega
   .refine⟨λR D=>w R (p8 D),by grind,by grind,n,by grind,?_⟩;grind
   grind
  have F:Y=b.1++e:=by rw[A];cases n<;>simp[f',u]
  refine bg s [(30,m)] a bH (g.aC ?_);refine dy () v a ?_ a ?_
  .simp only[U.Z,U,F,dk,bb,a_];and_intros<;>first|rfl|omega|simp
  simp[F]
 rintro⟨⟩ -;have z:fs i b o=(decide (20<c b.1+c e)||(decide (99<di b+c e-1)||(decide (20<dv b)||decide (9<=c b.2.2)))):=by unfold fs;rw[T]
 have N:-4000000<=dv b/\dv b<=4000001:=by
  have:=s_ b.2.2 I.aN;unfold dv;split
  .omega
  rename_i u;exact Ox
 have ar:c (b.1++e)=c b.1+c e:=dk;by_cases ag:20<c b.1+c e
 .have j:fs i b o=f:=M;rw[j];exact bg s [(53,f)] a bw zY
 by_cases ah:99<di b+c e-1
 .have j:fs i b o=f:=M;rw[j];exact bg s [(53,m),(57,f)] a FC zY
 by_cases ai:20<dv b
 .have j:fs i b o=f:=M;rw[j];exact bg s [(53,m),(57,m),(61,f)] a FC zY
 by_cases aj:9<=c b.2.2
 .have j:fs i b o=f:=M;rw[j];exact bg s [(53,m),(57,m),(61,m),(67,f)] a FC zY
 have j:fs i b o=m:=M;rw[j];have E:=bk.a0 b.2.1 (fT (dv b) i o);have W:=a3.a0 b.2.2 (k,dv b);refine bg s [(53,m),(57,m),(61,m),(67,m)] a ?_ ?_
 .simp only[U,B,bF.E,dk,a8,show rR.bytes=32 from a,show s'.bytes=16 from a,bA,dr,bb,a_];and_intros<;>first|exact K|exact bF.U _|rfl|omega
 refine g.freeze 8 1 a a a ?_;refine g.cu be [] a ?_ a a a fO;simp[U.Z,U,bF.E,ft,T,dk,fp,gI,bb,a_];and_intros<;>first|rfl|exactλ_ _=>rfl|exact E|exact W|simp
def oH(a:Int×Int):Bool:=decide (0<=a.1/\a.1<=9)&&decide (0<=a.2)
abbrev oz(b:fo)(a:Nat):Int×Int:=b.2.2.2.1.getD a (0,0)
abbrev oo(b:fo)(a:Nat):Int:=b.2.2.2.2.getD a 0
def pP(b:fo)(a:Nat):Bool:=oH (oz b a)&&decide (0<=oo b a/\oo b a<=2)
def hj(a:fo):Bool:=decide (c a.2.2.2.1=2)&&decide (c a.2.2.2.2=2)&&(aC 2).all (pP a)&&hh a.1 a.2.1
def Wb(A):Z r 23 [p7.a8 A] [] (bj (oH A)) []:=by
 refine Z.K func23 rfl λe=>?_;have d:a9 r [(24,jQ)]:=.cons kB .nil;by_cases b:0<=A.1/\A.1<=9
 .exact a' d [(6,f)] a (by simp[b]) (g.aw a (by simp[oH,b]))
 exact a' d [(6,m)] a bV (g.aw a (by simp only[U,oH,lG b];simp))
def Jh(d)(w:p3 d.2.1.1):Z r 8 [fZ d] [] (bj (hj d)) []:=by
 refine Z.K func8 rfl λx=>?_;have e:a9 r [(23,dm p7 (λl=>bj (oH l)) λ_=>[]),(24,jQ),(25,BK)]:=.cons (.bb λl _=>Wb l) (.cons kB (.cons MR .nil));unfold hj;by_cases u:c d.2.2.2.1=2
 rotate_left
 .exact a' e [(8,f),(13,f)] a bV (g.aw a (by simp[lG u]))
 by_cases p:c d.2.2.2.2=2
 rotate_left
 .exact a' e [(8,m),(13,f)] a bV (g.aw a (by simp[lG p]))
 refine a' e [(8,m),(13,m)] a bV ?_;rw[fq u,fq p,fr,fr];refine g.aL 1 (λb=>b<=2/\∀s,s<b->pP d s=f) (λb:Nat=>[(1,aH 0 0),(3,S b)]) (λ_=>[.cells 35 (nO d)]) (λb=>2-b) 0 a E a E a ⟨by omega,by omega⟩ ?_;rintro b ⟨v,n⟩;by_cases k:b<2
 .have j:d.2.2.2.1.getD b a3.I=oz d b:=rfl;have o:d.2.2.2.2.getD b aB.I=oo d b:=rfl;cases i:oH (oz d b)with
  |false=>
   refine a' e [(15,f),(25,f),(33,f)] a ?_ (g.aX (bW.zero a ?_))
   .simp[-al,j,i];omega
   rw[kL k (by rw[pP,i];rfl)];simp
  |true=>
   by_cases t:0<=oo d b/\oo d b<=2
   .refine a' e [(15,f),(25,m),(33,m)] a ?_ (g.aB (b+1) a E E ⟨k,iJ n (by rw[pP,i,fq t];rfl)⟩ y);simp[-al,j,o,i,a8];omega
   refine a' e [(15,f),(25,m),(33,f)] a ?_ (g.aX (bW.zero a ?_))
   .simp[-al,j,o,i];omega
   rw[kL k (by rw[pP,lG t,Bool.and_false])];simp
 obtain rfl:b=2:=y;rw[fN.2 n,fr];refine a' e [(15,m)] a E (g.aC ?_);refine ca e a ?_ (g.aw a ?_)
 .simp[a2.E,a2.U,bk.E,bk.U,a3.E,a3.U,aB.E,aB.U,w]
 exact z3
abbrev xK(a:cB)(e:Nat)(d:Nat->p N)(g:Nat)(k:p eI)(b:fl)(j:Nat)(i:p aa):p an:=[j1 a,.cells 27 [cG,cG,cG],.h 89 2 e d,.h 96 2 g (bk.fn k),.h 146 2 (c a.2.2) (a3.fn a.2.2),.cells 27 [.R 2 (.S e 2 0 e),.R 3 (.S g 2 0 g),.R 4 (.S (c a.2.2) 2 0 (c a.2.2))],.J (cn 131 2 b j i)]
def Ub(b)(i0)(V:i0<c b.1)(A:0<(b.1.getD i0 (0,[])).2.length)(z:c b.1<=4000000)(K:∀w∈b.1,c w.2<=4000000)(H:c b.2.1<=4000000)(R:lv b)(G:c b.2.2<=4000000):
  bl (ι:=p0 (b.1.getD i0 (0,[])).2) r 69 [b' b] [] (λ_=>.q (.agg [.R 0 (.S (c b.1) 2 0 (c b.1)),.R 1 (.S (c b.2.1) 2 0 (c b.2.1)),.R 2 (.S (c b.2.2) 2 0 (c b.2.2))]))
   (λk=>[.h 89 2 (c b.1) (gl b.1 i0 (c0 k.1.1 (b.1.getD i0 (0,[])).2.length)),.h 96 2 (c b.2.1) (bk.fn b.2.1),.h 146 2 (c b.2.2) (a3.fn b.2.2),tt (b.1.getD i0 (0,[])).2 k]):=by
 refine bl.bG be func69 rfl rfl rfl λW=>?_;refine bR [(1000001,f)] a v (g.region ?_);refine gR [] 5 a v (g.dK 9 89 2 (a2.fn []) a ?_);refine g.dK 10 96 2 (bk.fn []) a ?_;refine g.dK 11 146 2 (a3.fn []) a ?_;refine bR [(1000002,f)] a P_ (g.fh 131 2 ?_);refine cx a v (g.aL 7 (I3 b.1 i0) (λj:S3=>[(1,aH 0 0),(2,aH 1 0),(3,aH 5 0),(4,S j.1)]) (λj=>xK b j.1 (gl b.1 i0 (nM j)) 0 [] j.2.1 j.2.2.1 j.2.2.2) (λj=>c b.1-j.1) (0,.nil q,0,[]) a E a ?_ a ⟨by omega,.inl ⟨by omega,a⟩⟩ ?_)
 .simp[bu,pa];rfl
 rintro⟨d,i,p,l⟩ ⟨t,B⟩;simp only at t B;by_cases o:d<c b.1
 .have ab:b.1.getD d (0,[])∈b.1:=M;have x:b.1.getD (d:Int).toNat a2.I=b.1.getD d (0,[]):=M;have k:=K _ ab;by_cases u:d=i0
  .subst u;have F:p=0:=by rcases B with⟨_,O⟩|⟨N,_⟩<;>omega
   rw[<-x]at A k;refine a7 [(20,f),(1000005,f)] a bw ?_;refine g.eI (ι:=p0 (b.1.getD (d:Int).toNat a2.I).2) b7 15 18 8 (λs=>ay s 14)
    (λs=>[aH 5 0,cD 2 (.S d 2 0 d),aH 0 0,a2.S b.1,S d,iP [.int .i64 (b.1.getD (d:Int).toNat a2.I).1,lr (b.1.getD (d:Int).toNat a2.I)],iP [.int .i64 (b.1.getD (d:Int).toNat a2.I).1,lr (b.1.getD (d:Int).toNat a2.I)],S (b.1.getD (d:Int).toNat a2.I).1,
     ax (.S f 2 0 (λe=>[].getD e [])),aH 0 0,a2.S b.1,S d,iP [.int .i64 (b.1.getD (d:Int).toNat a2.I).1,lr (b.1.getD (d:Int).toNat a2.I)],iP [lr (b.1.getD (d:Int).toNat a2.I)],ax (lr (b.1.getD (d:Int).toNat a2.I))].getD s .any)
    (λk s=>[ax (r4 _ k),.q (.agg [.c (.int .i64 (b.1.getD (d:Int).toNat a2.I).1),.c (r4 _ k)]),ax (.S f 2 1 (λe=>[[.int .i64 (b.1.getD (d:Int).toNat a2.I).1,r4 _ k]].getD e []))].getD (s-15) .any)
    (λk=>xK b d (gl b.1 d (c0 i p)) 0 [] i p l++[tt _ k])
    rfl rfl rfl rfl rfl rfl rfl (λs o=>by have:=ff o;omega) rfl
    ⟨aV.y,aV.y,aV.y,aV.y,aV.y,aV.eval (bh:=[]) be a9.nil a ?_,aV.y,aV.y,aV.y,aV.y,aV.y,aV.y,aV.eval (bh:=[]) be a9.nil a ?_,aV.y,aV.y,v,v,v,v,v,v,v⟩
    (λk=>⟨aV.y,aV.y,aV.y,aV.y,aV.y,aV.eval (bh:=[]) be a9.nil a ?_,aV.y,aV.y,aV.y,aV.y,aV.y,aV.y,aV.eval (bh:=[]) be a9.nil a ?_,aV.y,aV.y,v,aV.y,aV.y,v⟩)
    (dB.fg a (eB.fD (Gt a) a a a A z7 (Ha _ _))) ?_
   .exact bw
   .exact bw
   .exact bw
   .exact bw
   rw[x];rw[x]at A k;generalize J:b.1.getD d (0,[])=w at *;intro C;refine a7 [(1000004,f)] a Qz (g.swap 6 7 cc a a (λ_ _ o=>o.1) (λ_ _ o=>o.1) ?_);refine a0 a bH (g.aB (d+1,C.1.1,c w.2,C.1.2) a E ?_ ?_ ?_)
   .have ai:=Lh (Y:=b.1) (i0:=d) (bC:=c0 C.1.1 (c w.2)) (EN:=c0 i p);rw[J]at ai;exact Fz
   .refine⟨by grind,.inr ⟨by grind,?_⟩⟩;grind
   grind
  refine bR [(20,f),(2000038,f)] a Fq (g.aB (d+1,i,p,l) a E ?_ ?_ ?_)
  .have ai:=Lg (Y:=b.1) (bC:=c0 i p) u;exact NZ
  .refine⟨by grind,?_⟩;grind
  grind
 obtain rfl:d=c b.1:=y;obtain⟨_,F,Q⟩:i0<c b.1/\p=(b.1.getD i0 (0,[])).2.length/\ej 2 (b.1.getD i0 (0,[])).2.length (bI.fn (b.1.getD i0 (0,[])).2) l:=M;subst F;clear B;generalize b.1.getD i0 (0,[])=n at *;refine bR [(20,m)] a E (g.aC ?_);refine cx a v (g.aL 7 (λd=>d<=c b.2.1) (λd:Nat=>[(1,aH 0 0),(2,aH 1 0),(3,aH 5 0),(5,S d)]) (λd=>xK b (c b.1) (gl b.1 i0 (c0 i (c n.2))) d (b.2.1.take d) i (c n.2) l) (λd=>c b.2.1-d) 0 a E a E a y ?_);intro d t;by_cases o:d<c b.2.1
 .have ab:b.2.1.getD d (0,[])∈b.2.1:=M;have x:b.2.1.getD (d:Int).toNat bk.I=b.2.1.getD d (0,[]):=M;have k:=R _ ab;have ai:=bk.cX b.2.1 o (0,[]);generalize b.2.1.getD d (0,[])=j at *;refine bR [(47,f),(1000010,f)] a bw ?_;rw[x];refine g.cm 7 1 148 2 (cy.fn []) a a ?_;refine cx a v (g.aL 9 (λe=>e<=c j.2) (λe:Nat=>[(1,aH 0 0),(2,aH 1 0),(3,aH 5 0),(5,S d),(6,aH 7 0),(7,S e)]) (λe=>xK b (c b.1) (gl b.1 i0 (c0 i (c n.2))) d (b.2.1.take d) i (c n.2) l++[.cells 96 [.c (.int .i64 j.1),.r 8 2 e (cy.fn (j.2.take e))],.r 148 2 e (cy.fn (j.2.take e))]) (λe=>c j.2-e) 0 a E a E a y ?_);intro e I;by_cases u:e<c j.2
  .have D:j.2.getD (e:Int).toNat cy.I=j.2.getD e ([],[]):=M;have X:=k.2 (j.2.getD e ([],[])) M;have T:=cy.cX j.2 u ([],[]);refine bR [(66,f),(2000085,f)] a ?_ (g.aB (e+1) a ?_ ?_ ?_ ?_)
   .simp only[U,x,D,a8,show yq.bytes=40 from a,show ef.bytes=8 from a,bA,lF,bb,a_];exact fv
   .simp
   .simp only[U.Z,U,x,D,pa,cZ,a_,bb];and_intros<;>first|exactλ_ _=>rfl|exact T|rfl
   .grind
   omega
  obtain rfl:e=c j.2:=y;rw[c8];refine bR [(66,m)] a Fo (g.aC ?_);refine cx a Fk (g.aB (d+1) a E Fz M ?_);omega
 obtain rfl:d=c b.2.1:=y;rw[c8];refine bR [(47,m)] a E (g.aC ?_);refine cx a v (g.bj ⟨(i,l),Q⟩ [2,3,4,6] ?_ (λe I=>absurd I E));simp
def TJ(b:cB)(d:Int)(k:c b.2.2<=4000000)(l:d<0∨d>c b.2.2):Z r 109 [b' b,S d] [] (b' b) []:=by refine Z.bp be func109 rfl rfl rfl λj=>?_;have i:a9 r [(24,jQ)]:=.cons kB .nil;refine bg i [(15,f)] a bV ?_;refine g.bj () [] ?_ (λn e=>absurd e E);simp
abbrev mK(a:Nat)(d:cB)(b:p eI):p eI:=b.filter λe=>!jv a d.2.2 e
abbrev s9(d:Nat)(e:cB)(b:Nat)(g:eI):Bool:=((e.2.2.drop d).take b).any λa=>a.2==g.1
abbrev GJ(b:cB)(d:Nat)(a:p eI):p an:=[.cells 27 [.c (tG b.1),.c (tH b.2.1),.c (hZ (b.2.2.take d))],.cells 27 [cG,cG,cG],.r 96 2 (c a) (bk.fn a)]
def Jq(a:α->Bool){d}(g:e<c d)(b):(d.take (e+1)).filter a=(d.take e).filter a++(if a (d.getD e b)then[d.getD e b]else[]):=ii
def R8(a:α->Bool){d}(g:e<c d)(b):(d.take (e+1)).any a=((d.take e).any a||a (d.getD e b)):=ii
def TK(b)(k)(R:k<=c b.2.2)(Q:c b.2.1<=4000000)(C:∀n∈b.2.1,-4000000<=n.1/\n.1<=4000000)(O:c b.2.2<=4000000):Z r 109 [b' b,S k] [] (b' (b.1,mK k b b.2.1,b.2.2.take k)) []:=by
 refine Z.bp be func109 rfl rfl rfl λN=>?_;have o:a9 r [(24,jQ)]:=.cons kB .nil;refine a' o [(15,m),(1000006,f)] a ?_ ?_
 .simp[jl];omega
 refine g.bO 6 96 2 a a ?_;refine ca o a v (g.aL 3 (λe=>e<=c b.2.1) (λe:Nat=>[(2,aH 0 0),(4,aH 1 0),(5,a3.S (b.2.2.drop k)),(6,.q (.aq (.r 2 2 (c (mK k b (b.2.1.take e))) (bk.fn (mK k b (b.2.1.take e)))))),(7,S e)]) (λe=>GJ b k (mK k b (b.2.1.take e))) (λe=>c b.2.1-e) 0 a ?_ a ?_ a y ?_)
 .have x:=a3.hh b.2.2 k (c b.2.2-k);simp[bT];exact x
 .simp[bT];exact⟨by omega,λe u=>by have B:e<k:=u;simp[fB,bT,c1.fn,gB,al,iq,B]⟩
 intro e u;by_cases w:e<c b.2.1
 .have F:b.2.1.getD e (0,[])∈b.2.1:=M;have s:b.2.1.getD (e:Int).toNat bk.I=b.2.1.getD e (0,[]):=M;have J:=C _ F;have x:=bk.cX b.2.1 w (0,[]);have z:mK k b (b.2.1.take (e+1))=mK k b (b.2.1.take e)++(if !jv k b.2.2 (b.2.1.getD e (0,[]))then[b.2.1.getD e (0,[])]else[]):=Jq (λn=>!jv k b.2.2 n) w (0,[]);have K:c (mK k b (b.2.1.take e))<=e:=fM (kI _ _) M;generalize mK k b (b.2.1.take e)=l at *;generalize b.2.1.getD e (0,[])=n at *;refine bg o [(31,f)] a ?_ ?_
  .simp only[U,s,bA,lF,bb,a_];grind
  refine g.aL 3 (λi=>i<=c (b.2.2.drop k)) (λi:Nat=>[(2,aH 0 0),(4,aH 1 0),(5,a3.S (b.2.2.drop k)),(6,.q (.aq (.r 2 2 (c l) (bk.fn l)))),(7,S e),(8,bj (s9 k b i n)),(9,S i)]) (λi=>GJ b k l) (λi=>c (b.2.2.drop k)-i) 0 a E a E a y ?_;intro i A;have I:=sv (i:=k) (l:=b.2.2);by_cases D:i<c (b.2.2.drop k)
  .have j:(b.2.2.drop k).getD (i:Int).toNat a3.I=(b.2.2.drop k).getD i (0,0):=M;have p:s9 k b (i+1) n=(s9 k b i n||((b.2.2.drop k).getD i (0,0)).2==n.1):=R8 (λw:Int×Int=>w.2==n.1) D (0,0);cases t:s9 k b i n with
   |true=>
    refine bg o [(37,f)] a PA (g.aB (i+1) a ?_ ?_ ?_ ?_)
    .rw[t]at p;simp[p]
    .simp
    .grind
    omega
   |false=>
    refine bg o [(37,f)] a PA (g.aB (i+1) a ?_ ?_ ?_ ?_)
    .rw[t]at p;simp only[U.Z,U,bu.same,p,s,j,bb,a_,Bool.false_or];rfl
    .simp
    .grind
    omega
  obtain rfl:i=c (b.2.2.drop k):=y;have p:s9 k b (c (b.2.2.drop k)) n=jv k b.2.2 n:=by unfold s9 jv;grind
  rw[p];cases t:jv k b.2.2 n with
  |true=>
   rw[t]at z;refine bg o [(37,m)] a E (g.aC ?_);refine cO o a t7 (g.aB (e+1) a ?_ ?_ ?_ ?_)
   .have:mK k b (b.2.1.take (e+1))=l:=M;rw[this];exact PS
   .rw[show mK k b (b.2.1.take (e+1))=l by grind];simp
   .grind
   omega
  |false=>
   rw[t]at z;refine bg o [(37,m)] a E (g.aC ?_);refine cO o a ?_ (g.aB (e+1) a ?_ ?_ ?_ ?_)
   .simp only[U,a8,show rR.bytes=32 from a,bb,a_];exact fv
   .rw[show mK k b (b.2.1.take (e+1))=l++[n] by grind];simp only[U.Z,U,s,bu.same,bb,a_,dk,gG];exact⟨bk.a0 l n,a⟩
   .rw[show mK k b (b.2.1.take (e+1))=l++[n] by grind];simp only[U.Z,U,s,bu.same,bb,a_,dk,gG];exact bk.a0 l n
   .grind
   omega
 obtain rfl:e=c b.2.1:=y;rw[c8];refine bg o [(31,m)] a E (g.aC ?_);refine cO o a v (g.bj () [] ?_ (λi A=>absurd A E));simp
def Xa(b)(d)(e:dQ b)(l:d.1≠1)(i:d.1≠2)(n:d.1≠3)(k:d.1≠4):Z r 68 [b' b,eF d] [] (b' b) []:=by
 refine Z.bp be func68 rfl rfl rfl λo=>?_;refine a0 a v (g.aF (qs b e.a1 e.bs e.a4 e.bB e.aN) [] a (a7 [(13,m),(42,m),(48,m),(91,m)] a ?_ ?_))
 .simp[l,i,n,k]
 exact Oy
def I8(b)(d)(az)(e:dQ b)(i:d.1=2)(k:Z r 109 [b' b,S d.2.1] [] (b' az) []):Z r 68 [b' b,eF d] [] (b' az) []:=by
 refine Z.bp be func68 rfl rfl rfl λl=>?_;refine a0 a v (g.aF (qs b e.a1 e.bs e.a4 e.bB e.aN) [] a (a7 [(13,m),(42,f)] a ?_ ?_))
 .simp[i]
 refine g.b3 k.tocH [] a a a a E a a a bp a bp a ?_;rintro -;exact a0 a v Oy
abbrev nB(a:Int)(b:p cb):p cb:=b.filter λd=>!(d.1==a)
abbrev acC(a:cB)(d:dW)(b:p cb):p an:=[j1 a,.cells 32 (vv d),.cells 27 [cG,cG,cG],.r 89 2 (c a.1) (a2.fn a.1),.r 96 2 (c a.2.1) (bk.fn a.2.1),.r 146 2 (c a.2.2) (a3.fn a.2.2),
 .cells 27 [.r 3 2 (c a.1) (a2.fn a.1),.r 4 2 (c a.2.1) (bk.fn a.2.1),.r 5 2 (c a.2.2) (a3.fn a.2.2)],.r 89 2 (c b) (a2.fn b)]
def W6(b)(d)(l:dQ b)(u:d.1=1):Z r 68 [b' b,eF d] [] (b' (b.1.filter λj=>!(j.1==d.2.1),b.2.1,b.2.2)) []:=by
 refine Z.bp be func68 rfl rfl rfl λA=>?_;refine a0 a v (g.aF (qs b l.a1 l.bs l.a4 l.bB l.aN) [] a (a7 [(13,f),(1000005,f)] a ?_ ?_))
 .simp[u]
 refine g.bO 6 89 2 a a ?_;refine a0 a v ?_;have w:=l.a1;refine g.aL 8 (λe=>e<=c b.1) (λe:Nat=>[(3,aH 1 0),(4,aH 2 0),(5,aH 6 0),(6,.q (.aq (.r 7 2 (c (nB d.2.1 (b.1.take e))) (a2.fn (nB d.2.1 (b.1.take e)))))),(7,S e)]) (λe=>acC b d (nB d.2.1 (b.1.take e))) (λe=>c b.1-e) 0 a E a E a y ?_;intro e t;by_cases p:e<c b.1
 .have s:b.1.getD (e:Int).toNat a2.I=b.1.getD e (0,[]):=by rw[c9];rfl
  have k:nB d.2.1 (b.1.take (e+1))=nB d.2.1 (b.1.take e)++(if !((b.1.getD e (0,[])).1==d.2.1)then[b.1.getD e (0,[])]else[]):=Jq (λj:cb=>!(j.1==d.2.1)) p (0,[]);have z:c (nB d.2.1 (b.1.take e))<=e:=fM (kI _ _) bV;generalize nB d.2.1 (b.1.take e)=i at *;generalize b.1.getD e (0,[])=j at *;cases n:j.1==d.2.1 with
  |true=>
   rw[n]at k;refine bR [(20,f),(31,m)] a ?_ (g.aB (e+1) a ?_ ?_ ?_ ?_)
   .simp only[U,s,a8,bA,dr,lF,bb,a_];and_intros<;>first|omega|simp[bne,n]
   .rw[show nB d.2.1 (b.1.take (e+1))=i by simpa using k];exact PS
   .rw[show nB d.2.1 (b.1.take (e+1))=i by simpa using k];simp
   .exact sf
   omega
  |false=>
   rw[n]at k;refine bR [(20,f),(31,f)] a ?_ (g.aB (e+1) a ?_ ?_ ?_ ?_)
   .simp only[U,s,a8,show nz.bytes=32 from a,bA,dr,lF,bb,a_];and_intros<;>first|omega|simp[bne,n]
   .rw[show nB d.2.1 (b.1.take (e+1))=i++[j] by simpa using k];simp only[U.Z,U,s,bu.same,bb,a_,dk,gG];exact⟨a2.a0 i j,a⟩
   .rw[show nB d.2.1 (b.1.take (e+1))=i++[j] by simpa using k];simp only[U.Z,U,s,bu.same,bb,a_,dk,gG];exact a2.a0 i j
   .exact sf
   omega
 obtain rfl:e=c b.1:=y;rw[c8];refine bR [(20,m)] a E (g.aC ?_);refine cx a v (g.bj () [] ?_ (λx o=>absurd o E));simp
def T8{b}{args}(Y)(dA)(k)(T:Nat->p N)(a)(l:c a=k)(j:bu k T (a3.fn a))(d:bl (ι:=Unit) r b args [] (λ_=>.q (.agg [dF 0 (c Y) (c Y),dF 1 (c dA) (c dA),dF 2 k k])) (λ_=>[.h 89 2 (c Y) (a2.fn Y),.h 96 2 (c dA) (bk.fn dA),.h 146 2 k T])):
  Z r b args [] (b' (Y,dA,a)) []:=by
 have n:=bl.bQ (aM:=λ_:Unit=>[.h 89 2 (c Y) (a2.fn Y),.h 96 2 (c dA) (bk.fn dA)]) (W:=146) (i:=2) (k:=λ_=>k) (T:=λ_=>T) d bp (λ_=>?_) bp (λ_=>gX _);have e:=bl.bQ (aM:=λ_:Unit=>[.h 89 2 (c Y) (a2.fn Y)]) (W:=96) (i:=2) (k:=λ_=>c dA) (T:=λ_=>bk.fn dA) n bp (λ_=>?_) bp (λ_=>gX _);have g:=bl.bQ (aM:=λ_:Unit=>[]) (W:=89) (i:=2) (k:=λ_=>c Y) (T:=λ_=>a2.fn Y) e bp (λ_=>?_) bp (λ_=>bB _);refine(g.le (oL:=λ_=>b' (Y,dA,a)) bp (λ_=>?_)).aq
 .simp only[U.Z,U,a_,bb];exact⟨bu.same,bu.same,l.symm,j⟩
 .simp
 .simp
 simp
def W'(b)(d:dW)(e:dQ b)(k:d.1=4)(p:0<=d.2.1)(o:d.2.1<c b.2.2)(i:a8 .i64 (3-ly b d)):
  bl (ι:=Unit) r 68 [b' b,eF d] [] (λ_=>.q (.agg [dF 0 (c b.1) (c b.1),dF 1 (c b.2.1) (c b.2.1),dF 2 (c b.2.2) (c b.2.2)])) (λ_=>[.h 89 2 (c b.1) (a2.fn b.1),.h 96 2 (c b.2.1) (bk.fn b.2.1),.h 146 2 (c b.2.2) (yf b d)]):=by
 refine bl.bG be func68 rfl rfl rfl λl=>?_;have j:a9 r [(24,jQ)]:=.cons kB .nil;have n:=e.aN;refine ca j a v (g.aF (T' b e.a1 e.bs e.a4 e.bB e.aN) [] a (a' j [(13,m),(42,m),(48,m),(91,f),(99,f)] a ?_ ?_))
 .have i:a8 .i64 (3-(b.2.2.getD (0+d.2.1.toNat) a3.I).1):=i;simp only[U,a8,k,bA,bb,a_]at i⊢;exact FD
 refine g.bj () [3,4,5] ?_ fO;simp
def W9(b)(a:dW)(d:dQ b)(j:a.1=4)(e:0<=a.2.1)(g:a.2.1<c b.2.2)(i:a8 .i64 (3-ly b a)):
  Z r 68 [b' b,eF a] [] (b' (b.1,b.2.1,b.2.2.set (0+a.2.1.toNat) (3-ly b a,(b.2.2.getD (0+a.2.1.toNat) a3.I).2))) []:=
 T8 b.1 b.2.1 _ _ _ E (a3.cW b.2.2 (0+a.2.1.toNat) (3-ly b a,(b.2.2.getD (0+a.2.1.toNat) a3.I).2) (c b.2.2) (bB _)) (W' b a d j e g i)
def W_(b)(e:dW)(d:dQ b)(k:e.1=4)(o:¬(0<=e.2.1/\e.2.1<c b.2.2)):Z r 68 [b' b,eF e] [] (b' b) []:=by
 refine Z.bp be func68 rfl rfl rfl λl=>?_;have i:a9 r [(24,jQ)]:=.cons kB .nil;have n:=d.aN;refine ca i a v (g.aF (qs b d.a1 d.bs d.a4 d.bB d.aN) [] a (a' i [(13,m),(42,m),(48,m),(91,f),(99,m)] a ?_ ?_))
 .simp only[U,a8,k,dr,bb,a_];exact FD
 refine g.bj () [] ?_ (λp j=>absurd j E);simp
abbrev Eg(a:cB)(j:dW)(e g b d:Nat)(i:p aa):p an:=[j1 a,.cells 32 (vv j),.cells 27 [cG,cG,cG],.h 89 2 (c a.1) (gl a.1 e (.slice (h ⟨g,0,q⟩) d b)),.h 96 2 (c a.2.1) (bk.fn a.2.1),.h 146 2 (c a.2.2) (a3.fn a.2.2),.J (cn 131 2 (.row g b) d i),.cells 27 [dF 3 (c a.1) (c a.1),dF 4 (c a.2.1) (c a.2.1),dF 5 (c a.2.2) (c a.2.2)]]
def W8(b)(d)(x:dQ b)(u:d.1=3)(i0 A)(t:sl b d i0 A):
  bl (ι:={D:fl×p aa // ej 2 (b.1.getD i0 (0,[])).2.length (bI.fn (gQ (b.1.getD i0 (0,[])).2 A d.2.2.2)) D.2}) r 68 [b' b,eF d] []
   (λ_=>.q (.agg [dF 0 (c b.1) (c b.1),dF 1 (c b.2.1) (c b.2.1),dF 2 (c b.2.2) (c b.2.2)]))
   (λD=>[.h 89 2 (c b.1) (gl b.1 i0 (c0 D.1.1 (b.1.getD i0 (0,[])).2.length)),.h 96 2 (c b.2.1) (bk.fn b.2.1),.h 146 2 (c b.2.2) (a3.fn b.2.2),.J (cn 131 2 D.1.1 (b.1.getD i0 (0,[])).2.length D.1.2)]):=by
 have W:=t.gy;have Y:=x.bs _ (vi t.a_);have G:=x.a1;refine bl.bG be func68 rfl rfl rfl λH=>?_;have i:a9 r [(24,jQ)]:=.cons kB .nil;refine ca i a v (g.a' (Ub b i0 t.a_ y x.a1 x.bs x.a4 x.bB x.aN) [] a bp ?_);rintro⟨⟨T,M⟩,Q⟩;refine g.fC (cn.len (d:=6) a) λV=>?_;obtain⟨j,cap,rfl⟩:=V.2.2.1 y;refine a' i [(13,m),(42,m),(48,f)] a g4 (g.aL 8 (λn:Nat×p aa=>n.1<=c b.1/\(n.1<=i0->n.2=M)/\(i0<n.1->ej 2 (b.1.getD i0 (0,[])).2.length (bI.fn (gQ (b.1.getD i0 (0,[])).2 A d.2.2.2)) n.2)) (λn=>[(3,aH 1 0),(4,aH 2 0),(5,aH 7 0),(8,S n.1)]) (λn=>Eg b d i0 j cap (b.1.getD i0 (0,[])).2.length n.2) (λn=>c b.1-n.1) (0,M) a E a ?_ a ⟨by omega,λ_=>rfl,λu=>by omega⟩ ?_)
 .simp only[U.Z,U,bu.same,a_,bb];and_intros<;>first|exactλ_ _=>rfl|rfl
 rintro⟨e,o⟩ ⟨F,K,J⟩;simp only at F K J;have k:0+(e:Int).toNat=e:=y;by_cases u:e<c b.1
 .by_cases R:e=i0
  .subst R;obtain rfl:=K (bB _);have w:=t.c5;have z:=t.b6;generalize Z:(b.1.getD e (0,[])).2=ag at *;refine a' i [(54,f),(1000017,f)] a ?_ ?_
   .simp only[U,bA,bb,a_];omega
   refine g.eI (ι:=Unit) b7 17 20 20 (λl=>ay l 16) (λl=>[aH 7 0,.q (.aq (dF 3 (c b.1) (c b.1))),S e,cD 3 (.bz (c b.1) 2 (0+(e:Int).toNat) 0),cD 3 (.bz (c b.1) 2 (0+(e:Int).toNat) 0),S (b.1.getD (0+(e:Int).toNat) (0,[])).1,aH 1 1,S d.2.1,bj ((b.1.getD (0+(e:Int).toNat) (0,[])).1==d.2.1),bj f,aH 1 2,S d.2.2.1,aH 7 0,.q (.aq (dF 3 (c b.1) (c b.1))),S e,cD 3 (.bz (c b.1) 2 (0+(e:Int).toNat) 0),cD 3 (.bz (c b.1) 2 (0+(e:Int).toNat) 1)].getD l .any)
    (λ_ l=>[ax (.val (.slice (h ⟨j,0,q⟩) (c ag) cap)),S (c ag),S (c ag-1)].getD (l-17) .any)
    (λ_=>Eg b d e j cap (c ag) o) a a a a a a a (λl u=>by have:=ff u;omega) a
    ⟨aV.y,aV.y,aV.y,aV.eval (bh:=[]) be i a q8,aV.y,aV.eval (bh:=[]) be i a NG,aV.y,aV.y,aV.y,aV.eval (bh:=[(66,f)]) be i a Rw,aV.y,aV.y,aV.y,aV.y,aV.y,aV.eval (bh:=[]) be i a q8,aV.y,v,v,v,v,v,v⟩
    (λ_=>⟨aV.y,aV.y,aV.y,aV.eval (bh:=[]) be i a q8,aV.y,aV.eval (bh:=[]) be i a NG,aV.y,aV.y,aV.y,aV.eval (bh:=[(66,f)]) be i a Rw,aV.y,aV.y,aV.y,aV.y,aV.y,aV.eval (bh:=[]) be i a q8,aV.y,v,aV.eval (bh:=[]) be i a q8,aV.eval (bh:=[]) be i a FM,v⟩)
    (dB.dk (aV.a2 (j7 a) (a1.e9 be (ai:=.aq (.c (.val (.slice (h ⟨j,0,q⟩) (c ag) cap)))) a a a a a ?_ ?_))) λ_=>?_
   .exact QN
   .grind
   refine a' i [(78,f),(1000018,f)] a ?_ ?_
   .simp only[U,bA,a_];omega
   refine g.eI (ι:=Unit) b7 5 10 8 (λl=>ay l 4||(ay 6 l&&ay l 9)) (λl=>[aH 7 0,.q (.aq (dF 3 (c b.1) (c b.1))),S e,cD 3 (.bz (c b.1) 2 (0+(e:Int).toNat) 0),cD 3 (.bz (c b.1) 2 (0+(e:Int).toNat) 1),.any,aH 1 2,S d.2.2.1,aH 1 3,ax (.V d.2.2.2)].getD l .any)
    (λ_ l=>[ax (.val (.slice (h ⟨j,0,q⟩) (c ag) cap))].getD (l-5) .any)
    (λ_=>Eg b d e j cap (c ag) o) a a a a a a a (λl u=>by simp at u;omega) a
    ⟨aV.y,aV.y,aV.y,aV.eval (bh:=[]) be i a q8,aV.y,v,aV.y,aV.y,aV.y,aV.y,v,v,v,v⟩
    (λ_=>⟨aV.y,aV.y,aV.y,aV.eval (bh:=[]) be i a q8,aV.y,v,aV.y,aV.y,aV.y,aV.y,v⟩)
    (dB.dk (aV.a2 (j7 a) (a1.e9 be (ai:=.aq (.c (.val (.slice (h ⟨j,0,q⟩) (c ag) cap)))) a a a a a ?_ ?_))) λ_=>?_
   .exact QN
   .grind
   refine ca i a q8 ?_;have N:c o=c ag*2:=Q.len;have I:0+d.2.2.1.toNat*2+1=A*2+1:=y;refine g.eP be 6 a a a a a a a ?_ a a λB C=>?_
   .show 0+d.2.2.1.toNat*2+1+1<=c o;omega
   have ab:=Jv Q W C;refine ca i a FM (g.aB (e+1,o.take (A*2+1)++B++o.drop (A*2+1+c B)) a E ?_ ?_ ?_)
   .simp only[U.Z,U,bu.same,a_,bb];show cn 131 2 _ _ (List.take (0+d.2.2.1.toNat*2+1) o++B++List.drop (0+d.2.2.1.toNat*2+1+c B) o)=_;rw[I]
   .grind
   grind
  have X:=t.b4 e u R;refine a' i [(54,f),(66,m),(78,m)] a ?_ (g.aB (e+1,o) a ?_ ?_ ?_ ?_)
  .simp only[U,a8,k,eY,bA,bb,a_];and_intros<;>first|exact X|omega
  .simp
  .simp
  .grind
  grind
 obtain rfl:e=c b.1:=y;refine a' i [(54,m)] a E (g.aC ?_);refine ca i a v (g.bj ⟨(.row j cap,o),J t.a_⟩ [3,4,5,6] ?_ fO);simp
def T_{o}{args}(b)(d)(i0 A)(x:i0<c b.1)(t:bl (ι:={g:fl×p aa // ej 2 (b.1.getD i0 (0,[])).2.length (bI.fn (gQ (b.1.getD i0 (0,[])).2 A d.2.2.2)) g.2}) r o args []
   (λ_=>.q (.agg [dF 0 (c b.1) (c b.1),dF 1 (c b.2.1) (c b.2.1),dF 2 (c b.2.2) (c b.2.2)]))
   (λg=>[.h 89 2 (c b.1) (gl b.1 i0 (c0 g.1.1 (b.1.getD i0 (0,[])).2.length)),.h 96 2 (c b.2.1) (bk.fn b.2.1),.h 146 2 (c b.2.2) (a3.fn b.2.2),.J (cn 131 2 g.1.1 (b.1.getD i0 (0,[])).2.length g.1.2)])):
  Z r o args [] (b' (g6 b d i0 A)) []:=by
 generalize e:b.1.getD i0 (0,[])=j at *;have z:∀l,l≠i0->a2.fn (g6 b d i0 A).1 l=a2.fn b.1 l:=λl n=>by simp[c1.fn,gB,al,o6,qc n]
 have D:a2.fn (g6 b d i0 A).1 i0=[.int .i64 j.1,.S m 2 (c j.2) (bI.fn (gQ j.2 A d.2.2.2))]:=by have:(g6 b d i0 A).1.getD i0 a2.I=(j.1,gQ j.2 A d.2.2.2):=M;show a2.a8 ((g6 b d i0 A).1.getD i0 a2.I)=_;rw[this];show[N.int .i64 j.1,N.S m 2 (c (gQ j.2 A d.2.2.2)) (bI.fn (gQ j.2 A d.2.2.2))]=_;rw[Ly]
 have y:=bl.fA (aM:=λg:{g:fl×p aa // ej 2 (c j.2) (bI.fn (gQ j.2 A d.2.2.2)) g.2}=>[.h 89 2 (c b.1) (gl b.1 i0 (c0 g.1.1 (c j.2))),.h 96 2 (c b.2.1) (bk.fn b.2.1),.h 146 2 (c b.2.2) (a3.fn b.2.2)]) (fa:=λ_=>[.h 89 2 (c b.1) (a2.fn (g6 b d i0 A).1),.h 96 2 (c b.2.1) (bk.fn b.2.1),.h 146 2 (c b.2.2) (a3.fn b.2.2)]) (W:=131) (i:=2) (k:=c j.2) (bP:=λg=>g.1.1) (ag:=λg=>g.1.2) t (λg=>g.2) 0 bp bp bp bp (λ_=>gX _)
  (λg l n=>by exact bH)
  (λg l n s C I=>by
   by_cases u:l=i0
   .subst u;rw[D]at I;have:gl b.1 l (c0 g.1.1 (c j.2)) l=[.int .i64 j.1,.val (c0 g.1.1 (c j.2))]:=NP;rw[this];rcases s with _|_|s
    .simp at I;subst I;exact⟨_,a,.inl a⟩
    .exact Q6
    grind
   .rw[z l u]at I;have:gl b.1 i0 (c0 g.1.1 (c j.2)) l=a2.fn b.1 l:=E3
    rw[this];exact⟨C,I,.inl a⟩)
 have B:=bl.bQ (aM:=λ_=>[.h 89 2 (c b.1) (a2.fn (g6 b d i0 A).1),.h 96 2 (c b.2.1) (bk.fn b.2.1)]) (W:=146) (i:=2) (k:=λ_=>c b.2.2) (T:=λ_=>a3.fn b.2.2) y bp (λ_=>?_) bp (λ_=>gX _);have v:=bl.bQ (aM:=λ_=>[.h 89 2 (c b.1) (a2.fn (g6 b d i0 A).1)]) (W:=96) (i:=2) (k:=λ_=>c b.2.1) (T:=λ_=>bk.fn b.2.1) B bp (λ_=>?_) bp (λ_=>gX _);have w:=bl.bQ (aM:=λ_=>[]) (W:=89) (i:=2) (k:=λ_=>c b.1) (T:=λ_=>a2.fn (g6 b d i0 A).1) v bp (λ_=>?_) bp (λ_=>bB _);refine(w.le (oL:=λ_=>b' (g6 b d i0 A)) bp (λ_=>?_)).aq
 .exact Pj
 .simp
 .simp
 simp
def W7(b)(d)(e:dQ b)(g:d.1=3)(i0 A)(a:sl b d i0 A):Z r 68 [b' b,eF d] [] (b' (g6 b d i0 A)) []:=
 T_ b d i0 A a.a_ (W8 b d e g i0 A a)
abbrev acF(a:cB)(b:dW):p an:=[j1 a,.cells 32 (vv b),.cells 27 [cG,cG,cG],.r 89 2 (c a.1) (a2.fn a.1),.r 96 2 (c a.2.1) (bk.fn a.2.1),.r 146 2 (c a.2.2) (a3.fn a.2.2),
 .cells 27 [.r 3 2 (c a.1) (a2.fn a.1),.r 4 2 (c a.2.1) (bk.fn a.2.1),.r 5 2 (c a.2.2) (a3.fn a.2.2)]]
def Xb(b)(d)(i:dQ b)(u:d.1=3)(p:pY b d):Z r 68 [b' b,eF d] [] (b' b) []:=by
 refine Z.bp be func68 rfl rfl rfl λA=>?_;have j:a9 r [(24,jQ)]:=.cons kB .nil;have z:=i.a1;refine ca j a v (g.aF (qs b i.a1 i.bs i.a4 i.bB i.aN) [] a (a' j [(13,m),(42,m),(48,f)] a g4 (g.aL 7 (λe=>e<=c b.1) (λe:Nat=>[(3,aH 1 0),(4,aH 2 0),(5,aH 6 0),(8,S e)]) (λ_=>acF b d) (λe=>c b.1-e) 0 a E a E a y ?_)));intro e n;by_cases u:e<c b.1
 .have t:=p e u;have w:=i.bs _ (vi u);have k:b.1.getD (e:Int).toNat a2.I=b.1.getD e (0,[]):=by rw[c9];rfl
  generalize b.1.getD e (0,[])=s at *;by_cases l:s.1=d.2.1
  .refine a' j [(54,f),(66,f),(78,m)] a ?_ (g.aB (e+1) a ?_ ?_ ?_ ?_)
   .simp only[U,a8,k,l,gh,bA,dr,bb,a_];exact fv
   .simp
   .simp
   .exact sf
   omega
  refine a' j [(54,f),(66,m),(78,m)] a ?_ (g.aB (e+1) a ?_ ?_ ?_ ?_)
  .simp only[U,a8,k,eY,bA,dr,bb,a_];and_intros<;>first|exact l|omega
  .simp
  .simp
  .exact sf
  omega
 obtain rfl:e=c b.1:=y;refine a' j [(54,m)] a E (g.aC ?_);refine ca j a v (g.bj () [] ?_ (λx o=>absurd o E));simp
def Wg(k):Z r 247 [S k] [] (bj (decide (0<=k)&&decide (k<999999999989))) []:=by
 refine Z.K func247 rfl λb=>?_;by_cases u:0<=k
 .exact a7 [(5,f)] a g4 (g.aw a g4)
 exact a7 [(5,m)] a g4 (g.aw a g4)
def Xn(b j):Z r 201 [pe b j] [] (bj (fU (b,j))) []:=by
 refine Z.K func201 rfl λi=>?_;have e:a9 r [(247,dm db (λd=>bj (decide (0<=d)&&decide (d<999999999989))) λ_=>[])]:=.cons (.bb λd _=>Wg d) .nil;unfold fU;cases u:(decide (0<=b)&&decide (b<999999999989))with
 |false=>exact a' e [(6,m),(11,m)] rfl g4 (g.aw rfl)
 |true=>
  by_cases I:1<=j
  .exact a' e [(6,f),(11,f)] a dD (g.aw a sj)
  exact a' e [(6,f),(11,m)] a dD (g.aw a sj)
abbrev BI:bL:=dm p7 (λa=>bj (fU a)) λ_=>[]
def MN:bM r 201 BI:=.bb λa _=>Xn a.1 a.2
def M1(d:p (Int×Int)):∀a:dL,dL.fq a->(d.foldl (λa b=>a.put b.1 b.2) a).af=d.foldl eb a.af/\dL.fq (d.foldl (λa b=>a.put b.1 b.2) a):=by
 induction d with
 |nil=>grind
 |cons b g e=>
  grind[DV,abQ]
def Vh(d:p cb)(T:c d<=4000000)(O:c (dH d)<=100000):Z r 162 [a2.S d] [] (a3.S (eA d)) []:=by
 refine Z.K func162 rfl λN=>?_;have e:a9 r [(201,BI)]:=.cons MN .nil;refine cO e a v (g.bO 3 230 2 a a ?_);refine g.aL 1 (λb=>b<=c d/\(dH (d.take b)).all fU=f) (λb:Nat=>[(3,.q (.aq (.r 0 2 (c (dH (d.take b))) (a3.fn (dH (d.take b)))))),(9,a2.S d),(10,S (c d)),(11,S b)]) (λb=>[jx (dH (d.take b))]) (λb=>c d-b) 0 a ?_ a ?_ a ⟨by omega,a⟩ ?_
 .simp[dH]
 .simp[dH]
 rintro b ⟨C,k⟩;by_cases l:b<c d
 .have o:d.getD (b:Int).toNat a2.I=d.getD b (0,[]):=M;have F:=Er l;refine bg e [(12,f)] a bw (g.aL 2 (λw=>w<=(d.getD b (0,[])).2.length/\(hg d b w).all fU=f) (λw:Nat=>[(3,.q (.aq (.r 0 2 (c (hg d b w)) (a3.fn (hg d b w))))),(5,aH 1 0),(9,a2.S d),(10,S (c d)),(11,S b),(16,bI.S (d.getD b (0,[])).2),(17,S (d.getD b (0,[])).2.length),(18,S w)]) (λw=>[jx (hg d b w),.cells 89 [.c (.int .i64 (d.getD b (0,[])).1),.c (.S m 2 (d.getD b (0,[])).2.length (bI.fn (d.getD b (0,[])).2))]]) (λw=>(d.getD b (0,[])).2.length-w) 0 a Qe a Qe a ⟨by omega,by simpa[hg]using k⟩ ?_);rintro w ⟨V,B⟩;obtain⟨J,Q⟩:=zl (d:=d) (w:=w) l;have X:c (hg d b w)<=100000:=M;have Y:(d.getD b (0,[])).2.length<=100000:=by grind[Mk]
  by_cases z:w<(d.getD b (0,[])).2.length
  .have x:(d.getD b (0,[])).2.getD (w:Int).toNat bI.I=(d.getD b (0,[])).2.getD w (0,[]):=M;have i:hg d b (w+1)=hg d b w++[(((d.getD b (0,[])).2.getD w (0,[])).1,(d.getD b (0,[])).1)]:=Ra;have A:=a3.a0 (hg d b w) (((d.getD b (0,[])).2.getD w (0,[])).1,(d.getD b (0,[])).1);cases u:fU (((d.getD b (0,[])).2.getD w (0,[])).1,(d.getD b (0,[])).1)with
   |false=>
    have W:eA d=[]:=by obtain⟨J,Q⟩:=zl (d:=d) (w:=w+1) l;unfold eA;rw[bm];grind
    refine bg e [(19,f),(29,f)] a ?_ (g.aX (bW.zero a ?_))
    .simp only[U,x,u,bA,bb,a_];exact q6
    exact bw
   |true=>
    refine bg e [(19,f),(29,m)] a ?_ (g.aB (w+1) a ?_ ?_ ?_ ?_)
    .simp only[U,x,u,a8,show ox.bytes=16 from a,bA,bb,a_];exact q6
    .exact P7
    .exact P7
    .grind
    omega
  have aa:w=(d.getD b (0,[])).2.length:=y;have t:hg d b w=dH (d.take (b+1)):=by rw[F,hg];grind[List.length_map]
  refine bg e [(19,m)] a bH (g.aC ?_);rw[t];refine cO e a bH (g.aB (b+1) a E ?_ ⟨l,t▸B⟩ y);simp
 .obtain rfl:b=c d:=y;rw[c8]at k⊢;refine bg e [(12,m)] a E (g.aC ?_);refine g.fY (dI:=[(3,a3.S (dH d))]) (ao:=[jx (dH d)]) ?_ a E a E;have I:∀n∈dH d,a8 .i64 n.1/\a8 .i64 n.2:=λn R=>by have:=aZ.1 k n R;simp only[fU,cp,bA]at this;simp only[a8];omega
  have j:a9 r [(196,e5 [qJ (dH d)] (ax (eK (i_ (dH d)))))]:=.cons (fu (Jd (dH d) y I)) .nil;have aR:(i_ (dH d)).af=eA d:=by unfold eA;rw[bs k];exact(M1 (dH d) .nil bH).1
  have D:c (eA d)<=100000:=by have:=CY (dH d) [];unfold eA;grind
  rw[<-aR]at D⊢;clear aR;generalize i_ (dH d)=s at *;have K:=IS (r:=r) s y
  cases s<;>(
   refine cO j a a (g.b3 K.tocH [] a a a a (by simp[eK]) a a a bp a bp a λ_=>?_)
   exact cO j a v (g.aw a))
def qE(b:p bD)(d:bD):Int:=match b.findIdx? (λe=>e==d)with
 |some a=>a
 |none=>-1
def Z4{d}{ab}(a:e<c d)(k:∀b,b<e->d.getD b []≠ab)(i:d.getD e []=ab):qE d ab=e:=by
 have:d.findIdx? (λg=>g==ab)=h e:=by rw[AR];refine⟨a,by grind,λb j=>?_⟩;grind
 simp[qE,this]
def Z6{d}{ab}(e:∀a,a<c d->d.getD a []≠ab):qE d ab=-1:=by have:d.findIdx? (λb=>b==ab)=q:=wD;simp[qE,this]
def Z5(d)(ab):decide (0<=qE d ab)=d.contains ab:=by unfold qE;grind
def U_(d)(ab):Z r 246 [bS.S d,b1 ab] [] (S (qE d ab)) []:=by
 refine Z.K func246 rfl λn=>?_;have s:=n.S 0 a;refine a0 a v (g.aL 0 (λb=>b<=c d/\∀e,e<b->d.getD e []≠ab) (λb:Nat=>[(0,bS.S d),(1,b1 ab),(7,S (c d)),(8,S b)]) (λ_=>[]) (λb=>c d-b) 0 a E a v a ⟨by omega,by omega⟩ ?_);rintro b ⟨p,i⟩;by_cases l:b<c d
 .have j:d.getD (b:Int).toNat bS.I=d.getD b []:=rfl;by_cases k:d.getD b []=ab
  .rw[Z4 l i k];refine a7 [(9,f),(16,f)] a ?_ (g.aX (bW.zero a));simp[U,j,bA,gW,bb,a_];and_intros<;>first|exact k.symm|omega
  refine a7 [(9,f),(16,m)] a ?_ (g.aB (b+1) a ?_ v ⟨l,λe o=>?_⟩ y)
  .simp only[U,j,a8,bA,eY,bb,a_];and_intros<;>first|grind|omega
  .simp
  grind
 rw[Z6 λe o=>i e y];exact QF
abbrev Sz:bL:=er (e3 bS) eE (λa b=>S (qE a b)) λ_ _=>[]
def UU(d)(ab):Z r 200 [bS.S d,b1 ab] [] (bj (d.contains ab)) []:=by refine Z.K func200 rfl λe=>?_;have b:a9 r [(246,Sz)]:=.cons (.bn λd ab _=>U_ d ab) .nil;refine ca b a (by simp[U];exact bS.U _) (g.aw a ?_);simp only[U,bS.E,a_];exact Z5 d ab
abbrev G9:bL:=er (e3 bS) eE (λa b=>bj (a.contains b)) λ_ _=>[]
def adU:bM r 200 G9:=.bn λa b _=>UU a b
def kV(b:p fd)(d:Nat):Bool:=(aC d).all λa=>fU (b.getD a (0,0))&&(a==0||decide ((b.getD (a-1) (0,0)).1<(b.getD a (0,0)).1))
theorem KS{d}:kV d (e+1)=(kV d e&&(fU (d.getD e (0,0))&&(e==0||decide ((d.getD (e-1) (0,0)).1<(d.getD e (0,0)).1)))):=by unfold kV;rw[List.range_succ,List.all_append];simp
def KQ{d}(i:kV d e=m):∀a,e<=a->kV d a=m:=by
 intro a g;obtain⟨b,rfl⟩:=Nat.exists_eq_add_of_le g;induction b with
 |zero=>exact i
 |succ b j=>grind[KS]
def Vi(d):Z r 195 [a3.S d] [] (bj (kV d (c d))) []:=by
 refine Z.K func195 rfl λp=>?_;have u:=p.S 0 a;have b:a9 r [(201,BI)]:=.cons MN .nil;refine ca b a v (g.aL 0 (λe=>e<=c d/\kV d e=f) (λe:Nat=>[(0,a3.S d),(5,a3.S d),(6,S (c d)),(7,S e)]) (λ_=>[]) (λe=>c d-e) 0 a E a v a ⟨by omega,a⟩ ?_);rintro e ⟨s,l⟩;by_cases o:e<c d
 .have k:=KS (d:=d) (e:=e);rw[l,fr]at k;have j:d.getD (e:Int).toNat a3.I=d.getD e (0,0):=rfl;cases i:fU (d.getD e (0,0))with
  |false=>
   rw[KQ (e:=e+1) M (c d) y];refine a' b [(8,f),(14,f),(29,f)] a ?_ (g.aX (bW.zero a));simp_all
  |true=>
  rw[i,fr]at k;by_cases t:e=0
  .subst t;refine a' b [(8,f),(14,m),(17,m),(29,m)] a ?_ (g.aB 1 a E v ⟨o,k⟩ y);simp only[U,j,i,a8,bA,dr,bb,a_];exact q6
  have n:d.getD ((e:Int)-1).toNat a3.I=d.getD (e-1) (0,0):=by rw[show((e:Int)-1).toNat=e-1 by omega];rfl
  by_cases w:(d.getD (e-1) (0,0)).1<(d.getD e (0,0)).1
  .refine a' b [(8,f),(14,m),(17,f),(29,m)] a ?_ (g.aB (e+1) a E v ⟨o,by grind⟩ y);simp only[U,j,n,i,a8,bA,dr,bb,a_];exact q6
  rw[KQ (e:=e+1) M (c d) y];refine a' b [(8,f),(14,m),(17,f),(29,f)] a ?_ (g.aX (bW.zero a));simp only[U,j,n,i,a8,bA,bb,a_];exact q6
 obtain rfl:e=c d:=y;rw[l];refine a' b [(8,m)] a E (g.aC ?_);exact ca b a v (g.aw a)
def VB(d):Z r 22 [aB.S d,aB.S d] [] (bj f) []:=by
 refine Z.K func22 rfl λb=>?_;have j:=b.S 0 a;refine a7 [(10,m)] a E (g.aL 0 (λe=>e<=c d) (λe:Nat=>[(0,aB.S d),(1,aB.S d),(5,S e)]) (λ_=>[]) (λe=>c d-e) 0 a E a E a y ?_);intro e i;by_cases k:e<c d
 .exact OR
 exact Pc
abbrev xy:bL:=er (e3 aB) (e3 aB) (λ_ _=>bj f) λa b=>[b=a]
def ED:bM r 22 xy:=.bn λa b d=>by have:b=a:=d;subst this;exact VB _
def VC(d):Z r 87 [a3.S d,a3.S d] [] (bj f) []:=by
 refine Z.K func87 rfl λb=>?_;have j:=b.S 0 a;refine a7 [(10,m)] a E (g.aL 0 (λe=>e<=c d) (λe:Nat=>[(0,a3.S d),(1,a3.S d),(5,S e)]) (λ_=>[]) (λe=>c d-e) 0 a E a E a y ?_);intro e i;by_cases k:e<c d
 .exact OR
 exact Pc
abbrev Hd:bL:=er (e3 a3) (e3 a3) (λ_ _=>bj f) λa b=>[b=a]
def ad2:bM r 87 Hd:=.bn λa b d=>by have:b=a:=d;subst this;exact VC _
abbrev KX(a:cb):an:=.cells 89 [.c (.int .i64 a.1),.c (.S m 2 (c a.2) (bI.fn a.2))]
def VD(b):Z r 88 [fG b,fG b] [] (bj f) []:=by
 refine Z.K func88 rfl λs=>?_;by_cases D:c b.2<=9223372036854775807
 .refine a7 [(10,m),(18,m)] a E (g.aL 2 (λd=>d<=c b.2) (λd:Nat=>[(2,aH 0 0),(3,aH 1 0),(5,S d)]) (λ_=>[KX b,KX b]) (λd=>c b.2-d) 0 a E a E a y ?_);intro d p;by_cases o:d<c b.2
  .refine bR [(24,f),(37,m)] a ?_ (g.aB (d+1) a ?_ ?_ ?_ ?_)
   .simp[a8,o];omega
   .simp
   .simp
   .grind
   omega
  refine bR [(24,m)] a bV (g.aC ?_);exact cx a v (g.aw a)
 exfalso;obtain⟨l,B,i,_⟩:=s;obtain⟨C,u⟩:∃w,bz [] l w (fG b):=by
  match B,i with
  |[j,_],i=>exact⟨j,i.1⟩
 obtain⟨t,_,e⟩:=u
 match t,e with
 |[j,n],e=>
  have:=e.2.1;cases(show Rd l.u n (.S m 2 (c b.2) (bI.fn b.2))from this)with
  |S x k z A F=>omega
abbrev He:bL:=er (jH bI) (jH bI) (λ_ _=>bj f) λa b=>[b=a]
def ad3:bM r 88 He:=.bn λa b d=>by have:b=a:=d;subst this;exact VD _
abbrev j0(a:eI):an:=.cells 96 [.c (.int .i64 a.1),.c (.S m 2 (c a.2) (cy.fn a.2))]
def VE(l)(e:c l.2<=4000000):Z r 89 [iR l,iR l] [] (bj f) []:=by
 refine Z.K func89 rfl λi=>?_;have x:a9 r [(22,xy)]:=.cons ED .nil;refine a' x [(10,m),(18,m)] a E (g.aL 2 (λb=>b<=c l.2) (λb:Nat=>[(2,aH 0 0),(3,aH 1 0),(5,S b)]) (λ_=>[j0 l,j0 l]) (λb=>c l.2-b) 0 a E a E a y ?_);intro b d;by_cases j:b<c l.2
 .refine bg x [(24,f),(39,m),(53,f)] a ?_ (g.aB (b+1) a ?_ ?_ ?_ ?_)
  .simp only[U,a8,gh,gu,iG,bA,bb,a_];and_intros<;>first|exact aB.U _|omega
  .simp
  .simp
  .grind
  omega
 refine bg x [(24,m)] a bV (g.aC ?_);exact zW
abbrev Hf:bL:=er (jH cy) (jH cy) (λ_ _=>bj f) λb a=>[a=b,c a.2<=4000000]
def ad4:bM r 89 Hf:=.bn λa b e=>by obtain⟨rfl,d⟩:b=a/\_:=e;exact VE _ d
abbrev zn(a:cB):an:=.cells 27 [.c (.S m 2 (c a.1) (a2.fn a.1)),.c (.S m 2 (c a.2.1) (bk.fn a.2.1)),.c (.S m 2 (c a.2.2) (a3.fn a.2.2))]
def VF(b)(e:dQ b):Z r 47 [b' b,b' b] [] (bj f) []:=by
 refine Z.K func47 rfl λl=>?_;have x:a9 r [(87,Hd),(88,He),(89,Hf)]:=.cons ad2 (.cons ad3 (.cons ad4 .nil));have o:=e.a1;have n:=e.a4;refine bg x [(13,m),(21,m),(28,f)] a ?_ ?_
 .simp only[U,a8,gh,gu,iG,bA,bb,a_];and_intros<;>first|exact a3.U _|omega
 refine g.aL 2 (λd=>d<=c b.1) (λd:Nat=>[(2,aH 0 0),(3,aH 1 0),(5,S d)]) (λ_=>[zn b,zn b]) (λd=>c b.1-d) 0 a E a E a y ?_;intro d i;by_cases j:d<c b.1
 .refine bg x [(35,f),(48,f)] a ?_ (g.aB (d+1) a ?_ ?_ ?_ ?_)
  .simp only[U,a8,bA,bb,a_];and_intros<;>first|exact bI.U _|omega
  .simp
  .simp
  .grind
  omega
 refine bg x [(35,m)] a bV (g.aC ?_);refine cO x a v (g.aL 2 (λd=>d<=c b.2.1) (λd:Nat=>[(2,aH 0 0),(3,aH 1 0),(6,S d)]) (λ_=>[zn b,zn b]) (λd=>c b.2.1-d) 0 a E a E a y ?_);intro d i;by_cases j:d<c b.2.1
 .have w:=(e.bB _ (mG j (0,[]))).1;have k:b.2.1.getD (d:Int).toNat bk.I=b.2.1.getD d (0,[]):=M;refine bg x [(54,f),(67,f)] a ?_ (g.aB (d+1) a ?_ ?_ ?_ ?_)
  .simp only[U,a8,k,cy.E,bA,bb,a_];and_intros<;>first|exact cy.U _|omega
  .simp
  .simp
  .grind
  omega
 refine bg x [(54,m)] a bV (g.aC ?_);exact zW
end
def Gi{d}:∀{i:Nat},c (fz d i)=i->∀a,1<=a->a<i->d.getD a 0≠d.getD (a-1) 0
 |0,_,a,_,b=>by omega
 |i+1,b,a,e,j=>by
  have g:=w' d i;rw[fz]at b;split at b
  .omega
  rename_i k;simp only[dk,gG]at b;by_cases l:a=i
  .grind
  exact Gi (i:=i) y a e y
def Mi(d):(j3 d).Pairwise λa b=>a<=b:=by have:=List.pairwise_mergeSort (le:=λa b:Int=>decide (a<=b)) (λe g i j k=>by grind) (λe g=>by grind) d;exact this.imp λl=>by grind
def zk(d):(j3 d).Perm d:=List.mergeSort_perm _ _
def SS(d):c (hO (j3 d))=c d↔d.Nodup:=by
 rw[<-qX d,<-(zk d).nodup_iff];have s:=Mi d;generalize j3 d=j at *;have l:∀{b:Nat} (e:b<c j),j.getD b 0=j[b]:=λ{b} e=>by grind
 constructor
 .intro e;have o:=Gi e;refine List.Pairwise.imp (R:=λt u=>t<u) (λe r=>by omega) (nb.2 λb g i a n=>?_);have k:=nb.1 s;have p:=o g y a;rw[l a,l y]at p;have v:=k (g-1) g y a y;by_cases r:b=g-1
  .grind
  have:=k b (g-1) i y y;omega
 intro e;unfold hO;rw[uK (bB _),c8];exact Fs
def Mm(k A):∀(g:p Int)d(e:Bool),(e=f->k∈d) ->
  ((A∈(g.foldl (gm k) (d,e)).1∨(A=k/\(g.foldl (gm k) (d,e)).2=m))↔((A∈d∨(A=k/\e=m))∨A∈g))
 |[],d,e,_=>by simp
 |j::g,d,e,s=>by
  rw[iI];have i:∀a b,gm k (d,e) j=(a,b)->(b=f->k∈a)/\((A∈a∨(A=k/\b=m))↔((A∈d∨(A=k/\e=m))∨A=j)):=λa b o=>by unfold gm at o;grind
  cases l:gm k (d,e) j with
  |mk a b=>
   obtain⟨r,n⟩:=i a b l;rw[Mm k A g a b r,n,e4,or_assoc]
def aaK{d}{b a:Int}:a∈eZ d b↔a∈d∨a=b:=by have:=Mm b a d [] m E;unfold eZ;grind
def yD{A}:∀{b a:p Int},A∈b.foldl eZ a↔A∈a∨A∈b
 |[],a=>by simp
 |d::b,a=>by rw[iI,yD,aaK,e4,or_assoc]
def Dr{d}{A}:A∈gz d↔A∈ea d:=by unfold gz;rw[yD];simp
def Kv{A}:∀{e:p eI}{b:p Int},A∈e.foldl (λa d=>(gz d.2).foldl eZ a) b↔A∈b∨∃d∈e,A∈ea d.2
 |[],b=>by simp
 |d::e,b=>by rw[iI,Kv,yD,Dr,or_assoc];simp
def tp{d}{A}:A∈hX d↔∃a∈d,A∈ea a.2:=by unfold hX;rw[Kv];simp
def Ku{d}{A}:∀{w:Nat},w<=c d->(A∈fz d w↔A∈d.take w)
 |0,_=>by simp[fz]
 |w+1,e=>by
  have b:=Ku (d:=d) (A:=A) (w:=w) y;rw[fz,ih y 0];split
  .rename_i s;rw[b,fx];constructor
   .exact .inl
   rintro(a|a)
   .exact a
   simp only[gH]at a;subst a;rw[s.2,al,bK y];exact AS.2 ⟨w-1,by simp;omega,by simp⟩
  grind
def yE{l}{A}:A∈gf l↔A∈ea l.2:=by unfold gf hO;rw[Ku (bB _),c8];exact(zk _).mem_iff
def aaG{d}{k:Int->Bool}:(hX d).all k=(aC (c d)).all λe=>!(gf (d.getD e (0,[]))).any λb=>!k b:=by
 rw[o9,aZ,fN];constructor
 .intro i e a;rw[jJ,List.any_eq_false];intro b g;have:=i b (tp.2 ⟨_,ou a,yE.1 g⟩);simp[this]
 intro i b g;obtain⟨o,n,l⟩:=tp.1 g;obtain⟨e,a,rfl⟩:=AS.1 n;have j:=i e a;rw[al,bK a,h4,jJ,List.any_eq_false]at j;simpa using j b (yE.2 l)
def s8{a:p α}(d:e<c a)(b:α):a.getD e b=a[e]:=M
def xe{ae:α->Int}{I}{d}:(∀a,a<c d->kj ae I d a=f)↔d.Pairwise λo p=>ae o<ae p:=by
 constructor
 .intro k;have key:∀g a e (b:a<c d) (i:e<c d),e=a+g->0<g->ae d[a]<ae d[e]:=by
   intro g;induction g with
   |zero=>grind
   |succ g r=>
    intro a e b i l _;have n:=k e i;rw[qf y,decide_eq_true_iff,s8 y,s8 i]at n;by_cases j:g=0
    .subst j;grind
    grind
  exact nb.2 λa e b i l=>key (e-a) a e b i y y
 intro k a b;by_cases j:a=0
 .exact bH
 rw[qf j,decide_eq_true_iff,s8 y,s8 b];exact(nb.1 k) (a-1) a y b y
def sI{d}{R:α->Bool}{I}:(∀a,a<c d->R (d.getD a I)=f)↔∀b∈d,R b=f:=by grind[List.mem_iff_getElem]
structure n3(i:Int)(R:cb):Prop where
 c5:1<=R.1/\R.1<=99
 key:cF i=f
 len:1<=c R.2/\c R.2<=4
 gF:∀l∈R.2,right i l=f
 iq:R.2.Pairwise λl X=>l.1<X.1
def yT{d}:ib i d=f↔n3 i d:=by
 rw[DM];simp[cp,bA,fN];have l:(∀b,b<c d.2->ig i d b=f)↔(∀g∈d.2,right i g=f)/\d.2.Pairwise λg n=>g.1<n.1:=by
  rw[<-sI (I:=(0,[])),<-xe (ae:=λg:cY=>g.1) (I:=(0,[]))];constructor
  .intro e;exact⟨λb a=>by have:=e b a;simp[ig,cp]at this;exact this.1,λb a=>by have:=e b a;simp only[ig,cp]at this;exact this.2⟩
  intro e b a;simp only[ig,cp];exact⟨e.1 b a,e.2 b a⟩
 rw[l];constructor
 .rintro⟨⟨⟨s,k⟩,w⟩,j,C⟩;exact⟨s,k,w,j,C⟩
 rintro⟨s,k,w,j,C⟩;grind
structure jF(i:Int)(b:cB):Prop where
 cq:∀R∈b.1,n3 i R
 c_:b.1.Pairwise λR bd=>R.1<bd.1
 ax:(ct b.1).Nodup
 a4:∀l∈b.2.1,(1<=l.1/\l.1<=20)/\(ev i l b.1).isSome=f
 cI:b.2.1.Pairwise λl X=>l.1<X.1
 key:cF i=f
 ec:g1 b.2.2=f
 len:c b.1<=20
def tO{b}:h0 i b=f↔jF i b:=by
 unfold h0;simp[cp,bA,fN];have r:(∀e,e<c b.1->nL i b.1 e=f)↔(∀g∈b.1,n3 i g)/\b.1.Pairwise λg t=>g.1<t.1:=by
  rw[<-xe (ae:=λg:cb=>g.1) (I:=(0,[]))];have:(∀g∈b.1,n3 i g)↔∀g∈b.1,ib i g=f:=⟨λl g o=>yT.2 (l g o),λl g o=>yT.1 (l g o)⟩
  rw[this,<-sI (I:=(0,[]))];constructor
  .intro l;exact⟨λe a=>by have:=l e a;simp[nL,cp]at this;exact this.1,λe a=>by have:=l e a;simp[nL,cp]at this;exact this.2⟩
  intro l e a;simp[nL,cp];grind
 have u:(∀e,e<c b.2.1->lw i b e=f)↔(∀j∈b.2.1,(1<=j.1/\j.1<=20)/\(ev i j b.1).isSome=f)/\b.2.1.Pairwise λj v=>j.1<v.1:=by
  rw[<-xe (ae:=λg:eI=>g.1) (I:=(0,[]))];have:(∀j∈b.2.1,(1<=j.1/\j.1<=20)/\(ev i j b.1).isSome=f)↔∀j∈b.2.1,(decide (1<=j.1/\j.1<=20)&&(ev i j b.1).isSome)=f:=M;rw[this,<-sI (I:=(0,[]))];constructor
  .intro l;exact⟨λe a=>by have:=l e a;simp[lw,cp]at this⊢;grind,λe a=>by have:=l e a;simp[lw,cp]at this;exact this.1.2⟩
  intro l e a;have n:=l.1 e a;simp[lw,cp]at n⊢;grind
 rw[r,u];constructor
 .rintro⟨⟨⟨⟨⟨⟨n,C⟩,k⟩,w,A⟩,s⟩,d⟩,p⟩;exact⟨n,C,k,w,A,s,d,p⟩
 rintro⟨n,C,k,w,A,s,d,p⟩;grind
structure kH(i:Int)(Q:dR):Prop extends jF i Q.1 where
 gx:∀l∈Q.1.2.1,∀k∈ea l.2,k∈Q.2.1
 gv:∀k∈Q.2.2,∃R∈Q.1.1,R.1=k
 hq:Q.2.2.Pairwise λl X=>l<X
def tQ{a}:hh i a=f↔kH i a:=by
 unfold hh;simp only[cp,tO,fN];have p:(hX a.1.2.1).all (λb=>a.2.1.contains b)=f↔∀k∈a.1.2.1,∀b∈ea k.2,b∈a.2.1:=by
  rw[aZ];constructor
  .intro g k w b n;simpa using g b (tp.2 ⟨k,w,n⟩)
  intro g b n;obtain⟨k,w,n⟩:=tp.1 n;grind
 have r:(∀e,e<c a.2.2->nD a.1.1 a.2.2 e=f)↔(∀b∈a.2.2,∃l∈a.1.1,l.1=b)/\a.2.2.Pairwise λk t=>k<t:=by
  rw[<-xe (ae:=λb:Int=>b) (I:=0)];have:(∀b∈a.2.2,∃l∈a.1.1,l.1=b)↔∀b∈a.2.2,(a.1.1.any λl=>l.1==b)=f:=E;rw[this,<-sI (I:=0)];constructor
  .intro g;exact⟨λe d=>by have:=g e d;simp only[nD,cp]at this;exact this.1,λe d=>by have:=g e d;simp[nD,cp]at this;exact this.2⟩
  intro g e d;simp[nD,cp];grind
 rw[p,r];constructor
 .rintro⟨⟨o,j,C⟩,s⟩;exact⟨s,o,j,C⟩
 rintro⟨s,o,j,C⟩;grind
def iY(b:Int)(a:p Int)(d:cb):cb:=if d.1=b then hH d a else d
def fi(b:Int)(a:p Int)(d:p cb):p cb:=(d.map (iY b a)).filter λe=>!e.2.isEmpty
def jz(a:dR):dR:=match a.2.2 with
 |[]=>a
 |b::d=>((fi b a.2.1 a.1.1,a.1.2),a.2.1,d)
def Yf{d:p cY}{a:p Int}{k}(e:k∈a):(d.filter λb=>a.contains b.1).find? (λb=>b.1==k)=d.find? (λb=>b.1==k):=M
def abi{bO:Int}{a:p Int}{R}{k}(b:k∈a):fP i (iY bO a R) k=fP i R k:=by
 unfold iY;split
 .simp only[fP,hH,Yf b]
 simp
def Jo{i bO}{cv}{k}(b:k∈cv):∀a:p cb,df i (fi bO cv a) k=df i a k
 |[]=>rfl
 |R::a=>by
  have g:=Jo (i:=i) (bO:=bO) b a;have e:=abi (i:=i) (bO:=bO) (R:=R) b;unfold fi df at *;rw[mq,sA];split
  .grind
  rename_i d;have d:(iY bO cv R).2=[]:=M;have:fP i R k=q:=by rw[<-e];unfold fP;grind
  grind
def X9{Y cT}{a}(d:∀b∈a,df i Y b=df i cT b):g0 i Y a=g0 i cT a:=by unfold g0;grind[List.map_congr_left]
def acO{Y cT}{l}(d:∀a∈ea l.2,df i Y a=df i cT a):ev i l Y=ev i l cT:=by
 have s:∀b∈l.2,fH i Y b=fH i cT b:=λb j=>by unfold fH;rw[X9 λa x=>d a (rr.2 ⟨b,j,x⟩)]
 unfold ev fh;grind[List.map_congr_left]
theorem yx{bO}{cv}{a}:(iY bO cv a).1=a.1:=by unfold iY hH;split<;>rfl
theorem Dh{bO}{cv}{R}:List.Sublist (iY bO cv R).2 R.2:=by unfold iY hH;split<;>simp
def Ms{bO}{cv}{Y}{a}(b:a∈fi bO cv Y):∃d∈Y,a=iY bO cv d/\a.2≠[]:=by unfold fi at b;grind
def KC{bO}{cv}:∀a:p cb,List.Sublist (ct (fi bO cv a)) (ct a)
 |[]=>.refl _
 |d::a=>by
  have b:=KC (bO:=bO) (cv:=cv) a;unfold fi ct at *;rw[mq,sA,sx];split
  .rw[sx];exact(Dh.map _).append b
  grind
def kH.step{b}(d:kH i b):kH i (jz b):=by
 unfold jz;split
 .exact d
 rename_i bO y o;have t:=d.gv;have s:=d.hq;rw[o]at t s;have w:∀e∈b.1.2.1,ev i e (fi bO b.2.1 b.1.1)=ev i e b.1.1:=λe k=>acO λp g=>Jo (d.gx e k p g) _;refine⟨⟨λx u=>?_,?_,d.ax.sublist (KC _),λe k=>?_,d.cI,d.key,d.ec,?_⟩,d.gx,λp g=>?_,(iF.1 s).2⟩
 .obtain⟨R,l,rfl,r⟩:=Ms u;have j:=d.cq R l;have n:=Dh (bO:=bO) (cv:=b.2.1) (R:=R);refine⟨by rw[yx];exact j.c5,j.key,⟨AP.2 r,fM n.length_le j.len.2⟩,λe k=>j.gF e (n.subset k),j.iq.sublist n⟩
 .show (fi bO b.2.1 b.1.1).Pairwise _;unfold fi;refine List.Pairwise.filter _ (rp.2 (d.c_.imp λv=>?_));grind[yx]
 .have:=d.a4 e k;grind
 .show (c (fi bO b.2.1 b.1.1))<=20;have:c (fi bO b.2.1 b.1.1)<=c b.1.1:=by unfold fi;grind
  exact fM this d.len
 obtain⟨R,l,rfl⟩:=t p (mt _ g);have r:R.1≠bO:=by grind[List.pairwise_cons]
 refine⟨R,?_,a⟩;show R∈fi bO b.2.1 b.1.1;unfold fi;refine ji.2 ⟨ho.2 ⟨R,l,by unfold iY;grind⟩,?_⟩;have:=(d.cq R l).len.1;grind
def oS{o}(j:dP o=f):rj o:=by
 obtain⟨l,_,_,u⟩:=zA.1 j;have r:∀a∈o,d6 a.2=f/\c a.2<=40:=λa d=>by have:=(l a d).2;simp[fJ,cp,bA]at this;grind
 refine⟨by omega,λa d=>⟨(r a d).1,by grind⟩,?_⟩;have:∀b:p c6,(∀a∈b,c a.2<=40)->c (eO b)<=40*c b:=by
  intro b;induction b with
  |nil=>exact bH
  |cons a v k=>
   intro e;have g:=k λi n=>e i (mt _ n);have s:=e a ir;have t:=vM a.2;simp[eO,sx,dk,fp]at g⊢;omega
 grind
theorem aaP(bO i)(Y):(jY bO i Y).2.length=c Y:=Dt i Y
def xf{d:p eI}:∀a,d.Pairwise (λa g=>a.1<g.1)->(∀b∈d,a<=b.1/\b.1<=20)->(c d:Int)<=max 0 (21-a):=by
 induction d with
 |nil=>grind
 |cons b s i=>
  intro a l e;obtain⟨o,j⟩:=iF.1 l;have r:=e b ir;have:=i (b.1+1) j λn k=>⟨by grind,(e n (mt _ k)).2⟩
  grind
def K6(i):∀g a(b:p bD),(∀e∈b,cC e=f)->∀k∈f' i g a b,∃x d,a<=x/\x<a+c (f' i g a b)/\0<c d/\c d<=4/\(∀e∈d,cC e=f)/\k=jY x i d
 |0,_,_,_,k,j=>by exact bH
 |g+1,a,b,s,k,j=>by
  simp only[f']at j⊢;split at j
  .rename_i n;rw[bs n];rcases e4.1 j with rfl|j
   .grind
   obtain⟨x,d,r,o,t⟩:=K6 i g (a+1) (b.drop 4) (λe l=>s e (p8 l)) k j;grind
  grind
def C0{a:p α}(d:c a≠0)(b:α):a.getD (c a-1) b∈a:=mG y b
def DN(i):∀g a(b:p bD),∀e∈f' i g a b,a<=e.1
 |0,_,_,e,d=>by exact bH
 |g+1,a,b,e,d=>by
  simp only[f']at d;split at d
  .rcases e4.1 d with rfl|d
   .exact Int.le_refl _
   have:=DN i g (a+1) (b.drop 4) e d;omega
  grind
def K3(i):∀(d:Nat) (a:Int)(b:p bD),(f' i d a b).Pairwise λe g=>e.1<g.1
 |0,_,_=>by simp[f']
 |d+1,a,b=>by
  simp[f'];split
  .refine iF.2 ⟨λk j=>?_,K3 i d (a+1) (b.drop 4)⟩;have:=DN i d (a+1) (b.drop 4) k j;exact bH
  simp
theorem aaM{d}{l X}(a:X∈fC d l):X=l∨X∈d:=by
 induction d with
 |nil=>simp[fC]at a;grind
 |cons g e b=>
  simp only[fC]at a;grind
def aaL{Y}{X}(d:X∈h' i Y):∃a∈Y,X=(d8 i a,fI a):=by
 have key:∀(Y:p bD) b,X∈Y.foldl (λe a=>fC e (d8 i a,fI a)) b->X∈b∨∃a∈Y,X=(d8 i a,fI a):=by
  intro Y;induction Y with
  |nil=>grind
  |cons a j g=>
   grind[aaM]
 rcases key Y [] d with d|d
 .cases d
 grind
def CK{Y}{k}{b}(d:df i Y k=h b):cC b=f/\d8 i b=k/\k∈ct Y:=by
 unfold df at d;obtain⟨nI,g,a⟩:=List.exists_of_findSome?_eq_some d;unfold fP at a;split at a
 .rename_i l j;have n:l.1=k:=NN;have e:=wT j;unfold iL hI at a;refine⟨by grind,by grind,rr.2 ⟨nI,g,ho.2 ⟨l,e,n⟩⟩⟩
 cases a
def Jn{Y}{k}(o:cF i=f)(g:∀b∈Y,n3 i b)(n:k∈ct Y):∃b,df i Y k=h b:=by
 obtain⟨nI,e,l⟩:=rr.1 n;obtain⟨s,r,t⟩:=ho.1 l;cases j:df i Y k with
 |some b=>simp
 |none=>
  have d:fP i nI k=q:=List.findSome?_eq_none_iff.1 j nI e;unfold fP at d;split at d
  .rename_i X a;have u:X.1=k:=by simpa using List.find?_some a
   have p:=(g nI e).gF X (wT a);unfold right at p;unfold iL at d;grind
  rename_i a;have:=List.find?_eq_none.1 a s r;grind
def Yd{Y cT}(a:cF i=f)(j:∀b∈Y,n3 i b)(o:∀k∈ct cT,k∈ct Y){k}{b}(n:df i cT k=h b):df i Y k=h b:=by obtain⟨d,e,l⟩:=CK n;obtain⟨p,x⟩:=Jn a j (o k l);obtain⟨s,g,_⟩:=CK x;rw[x,yI a d s (e.trans g.symm)]
def Ye{Y cT}(o:∀a(d:bD),df i cT a=h d->df i Y a=h d){l}{e}(g:fH i cT l=h e):fH i Y l=h e:=by
 have key:∀b,g0 i cT l.2=h b->g0 i Y l.2=h b:=by
  intro b x;unfold g0 at *;split at x
  .rename_i j;cases x;have n:∀a∈l.2,df i Y a=df i cT a:=λa s=>by have:=aZ.1 j a s;obtain⟨d,k⟩:=Az.1 this;simp_all
   simp_all
  cases x
 unfold fH at *;split at g
 .cases g
 simp_all
def acR{Y cT}(g:∀d(e:bD),df i cT d=h e->df i Y d=h e){l}{o}(b:ev i l cT=h o):ev i l Y=h o:=by
 unfold ev at *;split at b
 .rename_i s;cases b;simp only[cp]at s;have k:∀a∈l.2,fH i Y a=fH i cT a:=λa j=>by obtain⟨n,x⟩:=Az.1 (aZ.1 s.1.2 a j);rw[x,Ye g x]
  have p:fh i Y l.2=fh i cT l.2:=rv λa j=>by simp_all
  simp_all
 cases b
section
variable {r:aj V}
structure rk(b:cB):Prop where
 size:dQ b
 hM:b.1.Pairwise λx j=>x.1<j.1
 num:∀l∈b.2.1,-4000000<=l.1/\l.1<=4000000
 aN:∀l∈b.2.2,1<=l.1/\l.1<=2
def JS{b}(j:rk b)(d):(∃a s,sl b d a s)∨pY b d:=by
 by_cases i:pY b d
 .exact .inr i
 refine .inl ?_;simp only[pY,Classical.not_forall,Classical.not_not]at i;obtain⟨a,e,l,v,w⟩:=i;refine⟨a,d.2.2.1.toNat,e,l,λg k u o=>?_,by omega,by omega⟩;have r:b.1.getD a (0,[])=b.1[a]:=M;have p:b.1.getD g (0,[])=b.1[g]:=M;rw[r]at l;rw[p]at o;rcases dZ g a with n|t
 .have:=nb.1 j.hM g a k e n;omega
 have:=nb.1 j.hM a g e k y;omega
theorem KR{d}(g:kV d (c d)=f):(∀b∈d,fU b=f)/\d.Pairwise λb i=>b.1<i.1:=by
 have j:=fN.1 g;have k:∀a,a<c d->∀e,e<a->(d.getD e (0,0)).1<(d.getD a (0,0)).1:=by
  intro a;induction a with
  |zero=>grind
  |succ a l=>
   grind
 grind[List.getElem_of_mem,List.pairwise_iff_getElem]
def Yk(d):∀a:p fd,(a++d).Pairwise (λb e=>b.1<e.1)->d.foldl eb a=a++d:=by
 induction d with
 |nil=>grind
 |cons b i g=>
  grind[abL]
def aeE{d}(g:kV d (c d)=f)(k):(i_ d).find k=iT d k:=by obtain⟨a,b⟩:=M1 d .nil bH;have e:=Yk d [] (by grind[KR]);rw[i_,CP b,a];exact eM (iT · k) e
def M3{o}(d:dP o=f):∀a∈o,fJ a.2=f:=λa b=>((zA.1 d).1 a b).2
abbrev Ik(a:p bD):z:=.q (.aq (.r 2 1 (c a) (bS.fn a)))
def Xh(A C)(i)(o)(d)(l:cF i=f)(B:dP o=f)(N:kV d (c d)=f)(ad:c d<=4000000):
  Z r 161 [S i,bF.S o,a3.S d] (ik A C) (bS.S (fS i o d)) (ik A C):=by
 refine Z.K func161 rfl λaN=>?_;have P:a9 r [(96,dm db (λi=>bj (cF i)) λ_=>[]),(39,rC),(195,dm (e3 a3) (λd=>bj (kV d (c d))) λ_=>[])]:=.cons t96 (.cons wa (.cons (.bb λd _=>Vi d) .nil));refine bg P [(15,m),(20,m),(25,m)] a ?_ ?_
 .simp only[U,l,bF.E,a3.E,r',B,N];exact⟨a,a3.U _,a,bF.U _,a⟩
 have G:=KR N;have Q:∀s∈d,a8 .i64 s.1/\a8 .i64 s.2:=λs ba=>by have:=G.1 s ba;simp only[fU,cp,bA]at this;simp only[a8];omega
 have aR:=aeE N;have ae:=Jd (r:=r) d ad Q;have V:∀n,Z r 198 [ax (eK (i_ d)),S n] [] (S (iT d n)) []:=λn=>aR n▸UB (i_ d) n
 clear aR;generalize i_ d=F at *;have t:a9 r [(196,e5 [qJ d] (ax (eK F)))]:=.cons (fu ae) .nil;cases F<;>(
  refine cO t a a (g.bO 8 9 1 a a ?_);refine g.dF 3 [0,7,29,30] (λb=>b<=c o) (λb:Nat=>[(8,Ik ((eO (o.take b)).foldl (e1 i d) [])),(31,S b)]) (λb=>ik A C++[.r 9 1 (c ((eO (o.take b)).foldl (e1 i d) [])) (bS.fn ((eO (o.take b)).foldl (e1 i d) []))]) (λb=>c o-b) 0 a ?_ a ?_ a y ?_
  .simp[eO]
  .simp[eO]
  intro b Y;by_cases X:b<c o
  .have L:o.getD (b:Int).toNat bF.I=o.getD b ([],[]):=M;have I:o.getD b ([],[])∈o:=M;have ai:=M3 B _ I;have w:=Gp X;have H:=Gn o (b+1);have D:=oS B;have W:=(D.fo _ I).1;have ag:=D.all;have ah:=D.len;have R:=vN W;generalize o.getD b ([],[])=j at *;rw[w,dk]at H;have T:ld j.2=cl j.2:=by unfold ld;grind
   have u:a9 r [(197,dm eE (λaa=>bS.S (ld aa)) λ_=>[])]:=.cons EB .nil;refine bg u [(32,f)] a bw ?_;rw[L,T];refine g.dF 4 [0,7,29,30,31,37,38] (λe=>e<=c (cl j.2)) (λe:Nat=>[(8,Ik ((eO (o.take b)++(cl j.2).take e).foldl (e1 i d) [])),(39,S e)]) (λe=>ik A C++[.r 9 1 (c ((eO (o.take b)++(cl j.2).take e).foldl (e1 i d) [])) (bS.fn ((eO (o.take b)++(cl j.2).take e).foldl (e1 i d) [])),.cells 105 [.c (.V j.1),.c (.V j.2)]]) (λe=>c (cl j.2)-e) 0 a E a E a y ?_;intro e ak;have z:=CX i d (eO (o.take b)++(cl j.2).take e) [];simp only[gI,dk,List.length_take]at z;by_cases aj:e<c (cl j.2)
   .have ab:(cl j.2).getD (e:Int).toNat bS.I=(cl j.2).getD e []:=M;have O:cC ((cl j.2).getD e [])=f:=R _ M;have x:(eO (o.take b)++(cl j.2).take (e+1)).foldl (e1 i d) []=e1 i d ((eO (o.take b)++(cl j.2).take e).foldl (e1 i d) []) ((cl j.2).getD e []):=ii;generalize(eO (o.take b)++(cl j.2).take e).foldl (e1 i d) []=dy at *;generalize(cl j.2).getD e []=p at *;have ba:=bS.a0 dy p;refine bR [(40,f)] a bw ?_;rw[ab];refine g.aF (Cu A C i p l O) [0,1] a (g.aF (V _) [] a ?_);have k:a9 r [(200,G9)]:=.cons adU .nil;by_cases K:iT d (d8 i p)=0
    .cases ar:dy.contains p with
     |true=>
      rw[e1,bm M]at x;refine bg k [(49,f),(54,m)] a ?_ (g.aB (e+1) a ?_ ?_ ?_ ?_)
      .simp only[U,K,ar,a8,bS.E,gh,bA,bb,a_];exact PY
      .rw[x];simp
      .rw[x];simp
      .grind
      omega
     |false=>
      rw[e1,bs M]at x;refine bg k [(49,f),(54,f)] a ?_ (g.aB (e+1) a ?_ ?_ ?_ ?_)
      .simp only[U,K,ar,a8,show ta.bytes=16 from a,bS.E,gh,bA,bb,a_];exact PY
      .exact Qx
      .exact Qx
      .grind
      omega
    rw[e1,bm M]at x;refine bg k [(49,m)] a bH (g.aB (e+1) a ?_ ?_ ?_ ?_)
    .rw[x];simp
    .rw[x];simp
    .grind
    omega
   have J:e=c (cl j.2):=y;refine bR [(40,m)] a bw (g.aC ?_);refine cx a bH (g.aB (b+1) a ?_ ?_ ?_ ?_)
   .rw[w,J,c8];simp
   .rw[w,J,c8];simp
   .grind
   omega
  .obtain rfl:b=c o:=y;rw[c8];refine bR [(32,m)] a E (g.aC ?_)
   refine cx a v (g.aS [0,1] a ?_ qv);simp[fS,eO])
abbrev aee(a:cb×Bool):z:=.Q [.agg [.c (.int .i64 a.1.1),.c (.S m 2 (c a.1.2) (bI.fn a.1.2))],.aq (.c (.bool a.2))]
def gy(b:Int)(a:bD):cY:=(d8 b a,fI a)
def tu(a d:Int)(b:p bD):cb:=(a,l_ (b.map (gy d)))
def l7(a d:Int)(b:p bD):cb×Bool:=if ib d (tu a d b)=f then(tu a d b,f)else((0,[]),m)
theorem y2:∀b a,c (b.foldl hJ a)=c a+c b
 |[],a=>by simp
 |d::b,a=>by rw[iI,y2 b,Lv,fp];omega
def M_:∀d{b:p cY}{e:Nat},gp b->e<c b->gp (i' d b e)
 |0,_,_,a,_=>a
 |d+1,b,e,a,g=>by
  rw[i'];split
  .exact a
  split
  .exact M_ d (tR a y g) pU
  grind
theorem abE{d}{l}(b:gp d)(i:a8 .i64 l.1/\c l.2<=9223372036854775807):gp (hJ d l):=by
 refine M_ _ (λg e=>?_) E;rcases fx.1 e with a|a
 .exact b g a
 grind
def abv{d}(a:gp d)(b:0<c d):gp (hd d):=
 Cd _ _ (tR a b y) pU pU
theorem Kw{a}(b:cC a=f):a8 .i64 (gy i a).1/\(gy i a).2.length<=9223372036854775807:=by
 have d:=b;simp only[cC,cp,bA]at d;have e:=sC (gi a*(2*i+1)+i*7919) (show(999999999989:Int)≠0 by decide);have g:=sw (gi a*(2*i+1)+i*7919) (show(0:Int)<999999999989 by decide);refine⟨?_,?_⟩
 .show a8 .i64 (d8 i a);simp only[a8,d8];omega
 show c (fI a)<=_;unfold fI e8;grind
def J'(i)(a:p bD)(g:∀d∈a,cC d=f):gp ((a.map (gy i)).foldl hJ []):=by
 have:∀(b:p bD) e,(∀d∈b,cC d=f)->gp e->gp ((b.map (gy i)).foldl hJ e):=by
  intro b;induction b with
  |nil=>grind
  |cons d k j=>grind[abE,Kw]
 exact this a [] g (by simp[gp])
abbrev Lm(e d:av×aa)(g:Nat)(a:fl)(b:p cY):p an:=ik e d++[.cells 89 [.c (.int .i64 0),.c (.S f 0 0 λ_=>[])],iu g a (c b),aE a (c b) b]
abbrev DP(b:Int)(a:p cY):p an:=[.cells 89 [.c (.int .i64 b),.r 6 2 (c a) (bI.fn a)],.r 131 2 (c a) (bI.fn a)]
def IZ(u t:av×aa)(bO i)(Y)(H:a8 .i64 bO)(b2:cF i=f)(K:∀w∈Y,cC w=f)(aw:c Y<=4):
  Z r 163 [S bO,S i,bS.S Y] (ik u t) (aee (l7 bO i Y)) (ik u t):=by
 refine Z.bp be func163 rfl rfl rfl λau=>?_;refine bR [(1000002,f)] a v (g.jN 8 3 131 2 a a λs ak=>?_);refine cx a v (g.dF 5 [0,1,6,8,14,15] (λj:Nat×fl=>j.1<=c Y) (λj=>[(16,S j.1)]) (λj=>Lm u t s j.2 (((Y.take j.1).map (gy i)).foldl hJ [])) (λj=>c Y-j.1) (0,.nil ak) a E a ?_ a y ?_)
 .simp[gx]
 rintro⟨e,bP⟩ J;simp only at J;by_cases o:e<c Y
 .have G:Y.getD (e:Int).toNat bS.I=Y.getD e []:=M;have ab:cC (Y.getD e [])=f:=K _ M;have L:((Y.take (e+1)).map (gy i)).foldl hJ []=hJ (((Y.take e).map (gy i)).foldl hJ []) (gy i (Y.getD e [])):=ii;have an:c (((Y.take e).map (gy i)).foldl hJ [])=e:=by grind[y2]
  have I:=J' i (Y.take e) λw R=>K w (gV R);generalize Y.getD e []=w at *;generalize((Y.take e).map (gy i)).foldl hJ []=d at *;refine bg (.cons zs .nil:a9 r [(204,lK)]) [(17,f)] a bw ?_;rw[G];refine g.aF (Cu u t i w b2 ab) [0,1] a (cO (.cons zs .nil:a9 r [(204,lK)]) a v (g.a' (UY s bP I y (l:=gy i w) (Kw ab)) [3,4] a bp λO=>?_));have X:=Lv d (gy i w);refine cx a bH (g.aB (e+1,O) a E dD M ?_);grind
 obtain rfl:e=c Y:=y;rw[c8];refine bR [(17,m)] a E (g.aC ?_);have ar:c ((Y.map (gy i)).foldl hJ [])<=4:=by grind[y2]
 have I:=J' i Y K;have ae:l_ (Y.map (gy i))=[]++kY (c ((Y.map (gy i)).foldl hJ [])) ((Y.map (gy i)).foldl hJ []):=by rw[l_,y2,qb,gI,cZ]
 refine cx a v (g.cm 5 1 131 2 (bI.fn []) a a ?_);refine g.dF 7 [1,6,8,11] (λj:p cY×fl×p cY=>gp j.1/\c j.1+c j.2.2<=4/\l_ (Y.map (gy i))=j.2.2++kY (c j.1) j.1) (λj=>[]) (λj=>Lm u t s j.2.1 j.1++DP bO j.2.2) (λj=>c j.1) ((Y.map (gy i)).foldl hJ [],bP,[]) a E a E a ⟨I,by grind,ae⟩ ?_;rintro⟨o,bP,b⟩ ⟨Q,ag,C⟩;simp only at Q ag C;refine cx a v (g.aO (a1.dS a a) a a ?_);refine g.aq (aV.eF be 3 a a a a a (tM bP _) a) a ?_;refine g.aF (Cm bP (c o) o) [4] a ?_;by_cases aj:c o=0
 .rw[aj,kY,h5]at C;subst C;refine bR [(37,m)] a dD (g.aC ?_);have T:a9 r [(133,BE)]:=.cons MJ .nil;have aq:c (l_ (Y.map (gy i)))<=4:=y;cases ad:ib i (tu bO i Y)with
  |false=>
   have x:ib i (bO,l_ (Y.map (gy i)))=m:=ad;have F:l7 bO i Y=((0,[]),m):=by unfold l7;grind
   rw[F];refine bg T [(50,f)] a QZ (g.cv () [0,1] ?_ qv);simp
  |true=>
   have x:ib i (bO,l_ (Y.map (gy i)))=f:=ad;have F:l7 bO i Y=(tu bO i Y,f):=by unfold l7;grind
   rw[F];refine bg T [(50,m)] a QZ (g.cv () [0,1] ?_ qv);simp[tu]
 obtain⟨k,B⟩:∃k,c o=k+1:=⟨c o-1,by omega⟩
 refine bR [(37,f),(1000009,f)] a bw (g.iY (JM (e:=4) (k:=c o) (bP:=bP) (d:=o) a y) λP=>?_);obtain⟨A,n,rfl,V⟩:=P;rw[B]at V;have R:=UX (r:=r) s A n Q B y V;have ai:=abv Q y;have X:c ((hd o).take k)=k:=by grind[Ln]
 have aN:l_ (Y.map (gy i))=(b++[(hd o).getD k (0,[])])++kY k ((hd o).take k):=by rw[C,B,kY,bm y,B];simp
 have ao:gp ((hd o).take k):=λl D=>ai l (gV D);show g r _ _ _ _ _ (ik u t++[.cells 89 [.c (.int .i64 0),.c (.S f 0 0 λ_=>[])],iu s (.row A n) (c o),aE (.row A n) (c o) o]++DP bO b);rw[B];generalize(hd o).getD k (0,[])=l at *;generalize(hd o).take k=W at *;refine g.eI (ι:=Unit) b7 4 7 10 (λi=>ay i 3) (λi=>([aH 5 1,.q (.aq (.r 6 2 (c b) (bI.fn b))),g8 (.pointer (h ⟨s,0,q⟩)),sV s]:p z).getD i .any) (λ_ i=>([.any,.any,.any,.any,sU l,xS l,ax (.S f 2 1 λe=>([[.int .i64 l.1,.V l.2]]:p (p N)).getD e [])]:p z).getD i .any)
  (λ_=>ik u t++[.cells 89 [.c (.int .i64 0),.c (.S f 0 0 λ_=>[])],iu s (.row A n) k,aE (.row A n) k W]++DP bO b)
  rfl rfl rfl rfl rfl rfl rfl (λi o=>by have:=ff o;omega) rfl
  ⟨aV.y,aV.y,aV.y,aV.y,v,v,v,v,v,v,v⟩
  (λ_=>⟨aV.y,aV.y,aV.y,aV.y,v,aV.a2 (j7 a) (a1.gb (ah:=[.int .i64 l.1,.V l.2]) be a a a a),aV.y,v⟩)
  (dB.dm R.tocH [3,4] a a a a a a a bp a bp) λ_=>?_
 have D:=bI.a0 b l;refine cx a ?_ (g.aB (W,.row A n,b++[l]) a ?_ ?_ ?_ ?_)
 .simp only[U,show l1.bytes=24 from a,bb];omega
 .simp
 .simp only[X,U.Z,U,dk,fp,gI,bb,a_];and_intros<;>first|exact bu.same|exact D|rfl
 .grind
 grind
abbrev aeo(a:eI):z:=.Q [.agg [.c (.int .i64 a.1),.c (.S m 2 (c a.2) (cy.fn a.2))],.aq (.c (.bool f))]
abbrev Mh(e d:av×aa)(b:Int)(a:p m8):p an:=ik e d++[.cells 96 [.c (.int .i64 0),.c (.S f 0 0 λ_=>[])],.cells 96 [.c (.int .i64 b),.r 4 2 (c a) (cy.fn a)],.r 148 2 (c a) (cy.fn a)]
abbrev acS(b:c6)(a:p Int):p an:=[.cells 105 [.c (.V b.1),.c (.V b.2)],.cells 148 [.c (.V b.1),.r 7 1 (c a) (aB.fn a)],.r 3 1 (c a) (aB.fn a)]
def Xi(C n)(bO i)(o)(ah:1<=bO/\bO<=99)(s:cF i=f)(x:dP o=f):
  Z r 164 [S bO,S i,bF.S o] (ik C n) (aeo (fT bO i o)) (ik C n):=by
 refine Z.bp be func164 rfl rfl rfl λad=>?_;have G:a9 r [(96,dm db (λi=>bj (cF i)) λ_=>[]),(39,rC)]:=.cons t96 (.cons wa .nil);refine bg G [(15,m),(19,m),(24,m),(29,m)] a ?_ ?_
 .simp only[U,s,bF.E,r',x,dr];and_intros<;>first|exact bF.U _|rfl|omega
 refine g.cm 3 1 148 2 (cy.fn []) a a ?_;refine g.dF 5 [1,6,8,33,34] (λb=>b<=c o) (λb:Nat=>[(35,S b)]) (λb=>Mh C n bO (oC i (o.take b))) (λb=>c o-b) 0 a E a E a y ?_;intro b K;by_cases ag:b<c o
 .have X:o.getD (b:Int).toNat bF.I=o.getD b ([],[]):=M;have A:o.getD b ([],[])∈o:=M;have D:=oS x;have I:=D.fo _ A;have ab:=M3 x _ A;have z:=D.len;have T:=vN I.1;have aa:=vM (o.getD b ([],[])).2;have B:oC i (o.take (b+1))=oC i (o.take b)++[kS i (o.getD b ([],[]))]:=ii;have O:c (oC i (o.take b))=b:=M;generalize o.getD b ([],[])=d at *;generalize oC i (o.take b)=j at *;have Y:ld d.2=cl d.2:=by unfold ld;grind
  have w:a9 r [(197,dm eE (λV=>bS.S (ld V)) λ_=>[])]:=.cons EB .nil;refine bg w [(36,f)] a bw ?_;rw[X,Y];refine g.cm 6 1 3 1 (aB.fn []) a a ?_;refine g.dF 8 [1,6,8,10,11,33,34,35,44,45] (λe=>e<=c (cl d.2)) (λe:Nat=>[(46,S e)]) (λe=>Mh C n bO j++acS d (kv i ((cl d.2).take e))) (λe=>c (cl d.2)-e) 0 a E a E a y ?_;intro e L;by_cases ae:e<c (cl d.2)
  .have k:(cl d.2).getD (e:Int).toNat bS.I=(cl d.2).getD e []:=M;have R:cC ((cl d.2).getD e [])=f:=T _ M;have Q:kv i ((cl d.2).take (e+1))=kv i ((cl d.2).take e)++[d8 i ((cl d.2).getD e [])]:=ii;have H:c (kv i ((cl d.2).take e))=e:=M;generalize(cl d.2).getD e []=t at *;generalize kv i ((cl d.2).take e)=l at *;have u:=aB.a0 l (d8 i t);refine bR [(47,f),(1000011,f)] a bw ?_
   rw[k];refine g.gl b7 [aH 6 1,.q (.aq (.r 7 1 (c l) (aB.fn l))),S i,b1 t,S (d8 i t),ax (.S f 1 1 λb=>([[.int .i64 (d8 i t)]]:p (p N)).getD b [])] 6 a a a a a ⟨aV.y,aV.y,aV.y,aV.y,
    aV.dU (dB.dm (Cu C n i t s R).tocH [0,1] a a a a a a a bp a bp),aV.y,v⟩ ?_
   refine cx a ?_ (g.aB (e+1) a ?_ ?_ ?_ ?_)
   .simp only[U,a8,show ef.bytes=8 from a,bb,a_];exact fv
   .simp
   .simp only[Q,U.Z,U,dk,fp,gI,bb,a_];and_intros<;>first|exact bu.same|exactλ_ _=>rfl|exact u|rfl|omega
   .grind
   omega
  have W:e=c (cl d.2):=y;rw[W,c8];have u:=cy.a0 j (kS i d);have F:c j+1=c (j++[kS i d]):=E;have J:cy.a8 (kS i d)=[N.V d.1,N.S m 1 (c (kv i (cl d.2))) (aB.fn (kv i (cl d.2)))]:=rfl;rw[J,<-B]at u;rw[<-B]at F;refine bR [(47,m)] a E (g.aC ?_);refine cx a OA (g.aB (b+1) a E ?_ ?_ ?_)
  .simp only[U.Z,U,bb,a_];and_intros<;>first|exact bu.same|exact u|exact F|rfl
  .grind
  omega
 obtain rfl:b=c o:=y;rw[c8];refine bR [(36,m)] a E (g.aC ?_);refine cx a v (g.cv () [0,1] ?_ qv);simp[fT]
end
section
variable {r:aj V}[r.cb]
abbrev F0(b:Nat):={a:p c6×Nat // dP a.1=f/\b<=a.2/\a.2<=b+400}
end
section
variable {r:aj V}
set_option maxRecDepth 20000 in
def Wt(A)(b:Nat->Int)(k:Bytes b)(e:Nat)(i:e<=4000000)(j:A<=1048576)(d)(o:1<=c d/\c d<=1000):
  Z r 62 [aH 0 0,bS.S d] [ei A b e] (b1 (d.getD (qR A b e (c d)).toNat [])) [ei A b (e+1)]:=by refine Z.K func62 rfl λl=>?_;refine a0 a v (g.aF (I2 A b k e (c d) i j y) [0] a ?_);have n:=Lc A b e (c d) y;exact a0 a bV (g.aS [0] a oX np)
end
end R1
def bl.die{E:aj P}{I}{args}{W i}{F:Nat->p N}{l}{r:ι->Nat->p N}{S:ι->Nat}(J:bl E I args [.h W i k F] (λ_=>cD 0 l) (λA=>[.h W i (S A) (r A)])):Z E I args [.h W i k F] (cD 0 l) [.x]:=
 ⟨J.1,λT B z x Q o w=>J.2 T B z x Q o λA s K j y d g b=>w s K j y (by
  obtain⟨D,e,_,_⟩:cA _ _ _ (.R 0 l):=d;exact(⟨D,e,by simp,λ_ _ _ _ R=>by grind⟩:cA [.x] j K (.R 0 l))) g.d_
  ⟨b.size,b.a7,b.mem,b.bC,b.bU,λC M L aE u=>by
   obtain⟨O,n,e,t,U⟩:=b.box C M L aE u;cases C with
   |zero=>simp at aE;subst aE;exact⟨.x,n,a,t,v⟩
   |succ C=>grind,b.os,b.tape,b.output,b.own⟩⟩
namespace R1
variable {r:aj V}
def IM(b):Z r 140 [B9 b] [] (bj (hs b)) []:=by
 refine Z.K func140 rfl λj=>?_;have d:a9 r []:=.nil;unfold hs;by_cases e:b.1=1
 .by_cases jP:1<=b.2
  .exact a' d [(6,f),(11,f),(16,f)] a bw (g.aw a dD)
  exact a' d [(6,f),(11,f),(16,m)] a bw (g.aw a uh)
 by_cases i:b.1=2
 .by_cases jP:1<=b.2
  .exact a' d [(6,m),(11,f),(16,f)] a bw (g.aw a dD)
  exact a' d [(6,m),(11,f),(16,m)] a bw (g.aw a uh)
 exact a' d [(6,m),(11,m),(16,m)] a bw (g.aw a bw)
def V3(b):Z r 139 [B9 b] [] (bj (!hs b)) []:=by refine Z.K func139 rfl λe=>?_;have d:a9 r [(140,dm p7 (λb=>bj (hs b)) λ_=>[])]:=.cons (.bb λb _=>IM b) .nil;exact ca d a v (g.aw a)
def aax(d):g1 d=(decide (c d<=9)&&!d.any λa=>!hs a):=by
 have:(aC (c d)).all (λb=>hs (d.getD b (0,0)))=!d.any λa=>!hs a:=by rw[o9,fN,jJ,List.any_eq_false];grind[List.mem_iff_getElem]
 rw[g1,this,Bool.and_comm]
def V4(d):Z r 99 [a3.S d] [] (bj (g1 d)) []:=by
 refine Z.K func99 rfl λj=>?_;have e:=UO (r:=r) d 139 (λu=>!hs u) λi _=>V3 i;have b:a9 r [(138,e5 [a3.S d,ax (.fn (.func 139) [] [])] (bj (d.any λu=>!hs u)))]:=.cons (fu e) .nil;rw[aax];by_cases u:c d<=9
 .exact a' b [(6,f)] a ⟨a,fq y⟩ (g.aw a g4)
 exact a' b [(6,m)] a bV (g.aw a bw)
def tS:bM r 99 oa:=.bb λa _=>V4 a
def Wz(d)(l:c d.2<=4000000):Z r 178 [fG d] [] (aB.S (d.2.map (·.1))) []:=by
 refine Z.K func178 rfl λn=>?_;refine a7 [(1000002,f)] a v (g.bO 3 3 1 a a ?_);refine a0 a v (g.aL 2 (λb=>b<=c d.2) (λb:Nat=>[(1,aH 0 0),(3,.q (.aq (.r 1 1 b (aB.fn ((d.2.take b).map (·.1)))))),(7,bI.S d.2),(8,S (c d.2)),(9,S b)]) (λb=>[xw d,.r 3 1 b (aB.fn ((d.2.take b).map (·.1)))]) (λb=>c d.2-b) 0 a E a E a y ?_);intro b k;by_cases i:b<c d.2
 .have j:d.2.getD (b:Int).toNat bI.I=d' d b:=M;have x:(d.2.take (b+1)).map (·.1)=(d.2.take b).map (·.1)++[(d' d b).1]:=ii;have e:c ((d.2.take b).map (·.1))=b:=M;have ai:=aB.a0 ((d.2.take b).map (·.1)) (d' d b).1;rw[e]at ai;refine a7 [(10,f)] a ?_ (g.aB (b+1) a ?_ ?_ i y)
  .simp only[U,a8,show ef.bytes=8 from a];grind
  .exact O8
  exact O8
 obtain rfl:b=c d.2:=y;rw[c8];refine a7 [(10,m)] a E (g.aC ?_);exact wz
abbrev Hr:bL:=dm (jH bI) (λa=>aB.S (a.2.map (·.1))) λa=>[c a.2<=4000000]
def aeh:bM r 178 Hr:=.bb λb a=>Wz b a
def aaS(Y)(e):c (ct (Y.take e))<=c (ct Y):=by have:ct Y=ct (Y.take e)++ct (Y.drop e):=Rs;grind
abbrev ab_(a:p Int):z:=cD 0 (.S (c a) 1 0 (c a))
def IY(Y)(p:∀j∈Y,c j.2<=4000000)(z:c (ct Y)<=4000000):Z r 134 [a2.S Y] [] (ab_ (ct Y)) [jj (c (ct Y)) (ct Y)]:=by
 refine Z.K func134 rfl λs=>?_;have w:=s.S 0 a;have d:a9 r [(178,Hr)]:=.cons aeh .nil;refine a' d [(1000002,f)] a v (g.fe 3 3 1 (aB.fn []) a ?_);refine ca d a v (g.aL 1 (λb=>b<=c Y) (λb:Nat=>[(3,cD 0 (.S (c (ct (Y.take b))) 1 0 (c (ct (Y.take b))))),(6,a2.S Y),(7,S (c Y)),(8,S b)]) (λb=>[jj (c (ct (Y.take b))) (ct (Y.take b))]) (λb=>c Y-b) 0 a E7 a (by simp[bu,ct]) a y ?_);intro b o;by_cases i:b<c Y
 .have C:Y.getD (b:Int).toNat a2.I=Y.getD b (0,[]):=M;have e:=KD i;have k:=aaS Y (b+1);have x:=p _ (ou (I:=(0,[])) i);generalize Y.getD b (0,[])=j at *;rw[e]at k;generalize ct (Y.take b)=l at *;have n:=aB.hg l (j.2.map (·.1)) _ a;simp only[dk,kK]at k n;refine a' d [(9,f)] a ?_ (g.aB (b+1) a ?_ ?_ i y)
  .simp only[U,C,a8,bI.E,bI.U,kK,show ef.bytes=8 from a];grind
  .rw[e];simp only[U.Z,U,C,bI.E,dk,kK,bb,a_];and_intros<;>first|exact bu.same|rfl|omega
  rw[e];simp only[U.Z,U,C,bI.E,dk,kK,bb,a_];grind
 obtain rfl:b=c Y:=y;rw[c8];refine a' d [(9,m)] a E (g.aC ?_);refine ca d a v (g.aS [0] a ?_ (λu t=>absurd t E));simp
def Wk(Y)(b:∀e∈Y,c e.2<=4000000)(d:c (ct Y)<=4000000):Z r 134 [a2.S Y] [] (aB.S (ct Y)) []:=
 Z.bQ (aM:=[]) (W:=3) (i:=1) (k:=c (ct Y)) (T:=aB.fn (ct Y)) (IY Y b d) a E a (bB _)
end R1
namespace R1
section
variable {r:aj V}
def I7(b):Z r 95 [b' b] [] (b' b) []:=by refine Z.bG func95 rfl rfl rfl λe=>?_;refine a0 a E ?_;refine g.freeze 2 1 a a a ?_;exact g.cu be [] a E a a a (λi d=>absurd d E)
abbrev Hx:bL:=dm o' (λa=>b' a) λ_=>[]
def aen:bM r 95 Hx:=.bb λa _=>I7 a
abbrev zg(a:cB):an:=.cells 136 [.c (.S m 2 (c a.1) (a2.fn a.1)),.c (.S m 2 (c a.2.1) (bk.fn a.2.1)),.c (.S m 2 (c a.2.2) (a3.fn a.2.2))]
structure n4(b:cB):Prop extends p3 b where
 cq:∀R∈b.1,c R.2<=4000000
 e':c (ct b.1)<=4000000
def tv(b:Int)(a:cB):Bool:=(aC (c a.1)).all (nL b a.1)&&decide (c a.1<=20)&&decide (ct a.1).Nodup
def WC(i)(b)(b2:cF i=f)(n:n4 b):Z r 97 [b' b,S i] [] (bj (tv i b)) []:=by
 refine Z.K func97 rfl λX=>?_;have z:=n.fP;have R:=n.cq;have T:=Wk (r:=r) b.1 n.cq n.e';have p:a9 r [(133,BE)]:=.cons MJ .nil;refine ca p a v ?_;unfold tv;refine g.aL 1 (λe=>e<=c b.1/\∀C,C<e->nL i b.1 C=f) (λe:Nat=>[(1,S i),(2,aH 0 0),(9,a2.S b.1),(10,S (c b.1)),(11,S e)]) (λ_=>[zg b]) (λe=>c b.1-e) 0 a E a E a ⟨by omega,by omega⟩ ?_;rintro e ⟨Q,w⟩;by_cases u:e<c b.1
 .have bC:b.1.getD e a2.I=b.1.getD e (0,[]):=rfl;have o:b.1.getD (e-1) a2.I=b.1.getD (e-1) (0,[]):=rfl;have x:nL i b.1 e=(ib i (b.1.getD e (0,[]))&&kj (·.1) (0,[]) b.1 e):=rfl;have J:=qf (ae:=λs:cb=>s.1) (I:=(0,[])) (d:=b.1) (e:=e);have j:=R _ (ou (I:=(0,[])) u);generalize b.1.getD e (0,[])=s at *;generalize b.1.getD (e-1) (0,[])=A at *;cases t:ib i s with
  |false=>
   rw[t,sD]at x;refine a' p [(12,f),(20,f),(35,f)] a ?_ (g.aX (bW.zero a ?_))
   .simp[-al,bC,b2,j,t,bI.E,bI.U];omega
   rw[kL u x];simp
  |true=>
   rw[t,fr]at x;by_cases K:e=0
   .subst K;refine a' p [(12,f),(20,m),(23,m),(35,m)] a ?_ (g.aB 1 a E E ⟨u,iJ w bH⟩ y);simp[-al,bC,b2,j,t,bI.E,bI.U,a8];omega
   have J:=J K;by_cases N:A.1<s.1
   .refine a' p [(12,f),(20,m),(23,f),(33,m),(35,m)] a ?_ (g.aB (e+1) a E E ⟨u,iJ w M⟩ y);exact P8
   refine a' p [(12,f),(20,m),(23,f),(33,f),(35,f)] a P8 (g.aX (bW.zero a ?_));exact j8
 obtain rfl:e=c b.1:=y;rw[fN.2 w,fr];refine a' p [(12,m)] a E (g.aC ?_);refine ca p a v (g.aF (IY b.1 n.cq n.e') [] a (ca p a v (g.aF (Cz (ct b.1) n.e') [1] a ?_)));have W:=SS (ct b.1);have F:=(IC (r:=r) (j3 (ct b.1)) (by rw[qX];exact n.e')).die;rw[qX]at F;have V:=HV (j3 (ct b.1));rw[qX]at V;have O:=n.e';generalize hO (j3 (ct b.1))=k at *;generalize j3 (ct b.1)=B at *;have iw:a9 r [(136,k' [dN (c (ct b.1))] [jj (c (ct b.1)) B] (cD 0 (.S (c (ct b.1)) 1 0 (c k))) [.x]),(134,e5 [a2.S b.1] (aB.S (ct b.1)))]:=.cons (l' F) (.cons (fu T) .nil);refine a' iw [(1000009,f)] a v ?_;by_cases aa:c b.1<=20
 rotate_left
 .refine a' iw [(46,m)] a bV (g.aw a ?_);exact bw
 have D:(c b.1:Int)<=20:=y;generalize Y:ct b.1=l at *;refine g.di (ι:=Unit) b7 6 (λe=>match ay e 5 with|true=>f|false=>match af e 8 with|true=>f|false=>af e 9) (λe=>[aH 0 0,a2.S b.1,S (c b.1),bj (decide ((c b.1:Int)<=20)),bj f,cD 1 (.S (c l) 1 0 (c l)),.any,.any,aH 0 0,a2.S b.1].getD e .any)
  (λ_ e=>[.any,.any,.any,.any,.any,.any,cD 1 (.S (c l) 1 0 (c k)),S (c k),.any,.any,aB.S l,S (c l),bj ((c k:Int)==c l),bj ((c k:Int)==c l),bj ((c k:Int)==c l)].getD e .any) (λ_=>[zg b,.x]) a a a a a a ?_ ?_ ?_ ?_
 .exact⟨.y,.y,.y,.y,.eval be iw (bh:=[(46,f)]) a (fq D),.y,v,v,.y,.y,v,v,v,v,v,v⟩
 .intro _;exact⟨.y,.y,.y,.y,.eval be iw (bh:=[(46,f)]) a (fq D),.y,v,.y,.y,.y,.eval be iw (bh:=[]) a a,.y,.y,.y,.y,v⟩
 .exact .dk (eh be iw (bh:=[]) (ao:=h [zg b,.x]) a ⟨a,a⟩)
 intro _;refine ca iw a v (g.aw a ?_);have:((c k:Int)==c l)=decide l.Nodup:=M;exact bH
def iz:p (Int×Int)->N
 |[]=>.bd
 |a::b=>.O [.int .i64 a.1,.int .i64 a.2,iz b]
abbrev v5(a:p (Int×Int)):N:=.S m 2 (c a) (a3.fn a)
def TI(b:p (Int×Int)):Z r 192 [a3.S b] [] (ax (.fn (.func 241) [] [.O [v5 b]])) []:=by refine Z.K func192 rfl λd=>?_;refine gR [] 5 a v ?_;refine g.freeze 1 0 a a a ?_;refine a0 a v (g.aw a ?_);rfl
def TN(k:p (Int×Int))(x:c k<=4000000){d:Nat}{b:bJ}{n:Loop}{s:an}(l:Nat->an)(t:s=l (c k))(aE:∀w,l w≠.bo)(e:∀i,i<c k->iD (ι:=Unit) r 1 [S i,.q (.agg [.c (.int .i64 (k.getD i (0,0)).1),.c (.int .i64 (k.getD i (0,0)).2)])] [l (i+1),.loop d b n] f (λ_=>[l i,.loop d b n])):
  bl (ι:=Unit) r 241 [.q (.aq (.aR 1)),ax (.O [v5 k])] [s,.loop d b n] (λ_=>.Q []) (λ_=>[l 0,.loop d b n]):=by
 subst t;refine bl.bR func241 rfl rfl rfl (g.aW ?_);refine a0 a t7 ?_;show b0 r _ (.loop _) _ _ _;refine b0.loop (br:=Nat) (λj=>j<=c k) (λj=>[(0,.q (.aq (.aR 1))),(1,ax (.O [v5 k])),(3,S ((j:Int)-1))]) (λj=>[l j,.loop d b n]) (λj=>j) (c k) (bB _) (eG a E) a ?_;intro j o;rcases j with _|i
 .refine g.aW ?_;refine a7 [(8,m)] a E (g.fI a a ?_);exact⟨(),.inr a,a,qO (aE 0) (qO E a),[],.Q [],[],a,a,a,v⟩
 have u:(((i+1:Nat):Int)-1)=(i:Int):=y;rw[u];refine g.aW ?_;refine a7 [(8,f)] a ?_ ?_
 .simp only[U,bA,bb,a_];omega
 refine g.yield (e i o) a a a a a a λ_=>?_;exact a7 [(18,m)] a Rn ⟨i,by omega,by omega,eG a E,a⟩
def In{a:p (Int×Int)}(b:e<c a):a.drop e=a.getD e (0,0)::a.drop (e+1):=FL
def IR(b:p (Int×Int))(j:c b<=4000000):Z r 147 [a3.S b] [] (ax (iz b)) []:=by
 refine(bl.e6 (ι:=Unit) (ao:=λ_=>[]) (res:=λ_=>ax (iz b)) func147 rfl rfl rfl λn=>?_).toZ;have e:a9 r [(192,e5 [a3.S b] (ax (.fn (.func 241) [] [.O [v5 b]])))]:=.cons (fu (TI b)) .nil;refine de.seq (b0.bA (g.aW ?_));refine ca e a v (de.seq (b0.bA (g.aW ?_)));refine ca e a v (de.seq (de.seq (b0.bA (g.aW ?_))));refine ca e a a (de.block ?_);have i:iz (b.drop (c b))=.bd:=by rw[sB];rfl
 refine de.rangeFunc (pb:=e7 [.O [v5 b]]) (bY.callee a) (TN b j (λd=>.cells 185 [.c (iz (b.drop d))]) (by rw[i];rfl) E ?_) (λd=>⟨a,by simp⟩) λd=>⟨.normal,a,?_⟩
 .intro d bq;refine iD.cK (bt:=λ_=>[.cells 146 [.c (.int .i64 (b.getD d (0,0)).1),.c (.int .i64 (b.getD d (0,0)).2)],.x]) ?_ bp (λ_ w l aE=>?_)
  .rw[In bq];generalize b.drop (d+1)=k;cases k<;>(
    refine iD.intro (w:=q) a a a a (g.aW ?_);refine a0 a v ?_;refine⟨a,a,g.aW ?_⟩;refine gR [] 1 a v ?_;refine g.region ?_;refine gR [] 4 a v ?_;refine g.e3 13 3 a a a ?_;refine a0 a v ?_;refine⟨a,a,(),jV a ?_⟩;simp[iz])
  .match w,aE with
   |0,aE=>cases aE;exact .inl ⟨_,_,a,a⟩
   |1,aE=>exact .inr (.inl aE)
   |w+2,aE=>simp at aE
 .show de r _ _ _ _ _;refine b0.bA (g.aW ?_);rw[List.drop_zero];cases b<;>(
   refine a0 a v ?_;refine g.ret ⟨(),bW.zero a ?_⟩;simp[iz])
abbrev adS(a:p (Int×Int))(b:Bool):z:=.Q [.aq (.c (.S m 2 (c a) (a3.fn a))),.aq (.c (.bool b))]
def V2(d)(l)(i:g1 d=f)(j:hs l=f)(o:c d<=9):Z r 165 [a3.S d,pe l.1 l.2] [] (adS (if c d=9 then d else d++[l]) (decide (c d≠9))) []:=by
 refine Z.K func165 rfl λn=>?_;have b:a9 r [(99,oa),(140,dm p7 (λe=>bj (hs e)) λ_=>[])]:=.cons tS (.cons (.bb λe _=>IM e) .nil);refine a' b [(9,m),(14,m)] a ?_ ?_
 .simp only[U,a3.E,i,j,gu,bb,a_];first|exact a3.U _|(and_intros<;>first|rfl|exact a3.U _)
 refine g.aF (Iz d y) [] a ?_;by_cases x:c d=9
 .exact a' b [(19,f)] a oY OC
 refine a' b [(19,m)] a ?_ ?_
 .simp only[U,show s'.bytes=16 from a,eY,bb,a_];exact q6
 have k:=a3.a0 d l;refine g.fY (dI:=[(4,cD 1 (.S (c d+1) 2 0 (c d+1))),(5,bj f)]) (ao:=[.cells 146 [.c (.int .i64 l.1),.c (.int .i64 l.2)],.h 146 2 (c d+1) (a3.fn (d++[l]))]) ?_ a nU a bH;exact OC
def Vz(d)(e:c d<=4000000):Z r 193 [a2.S d] [] (S (if c d=0 then 0 else(d.getD (c d-1) (0,[])).1)) []:=by
 refine Z.K func193 rfl λi=>?_;by_cases u:c d=0
 .rw[bs u];exact a7 [(5,f)] a g4 (g.aw a)
 have b:d.getD ((c d:Int)-1).toNat a2.I=d.getD (c d-1) (0,[]):=by rw[show((c d:Int)-1).toNat=c d-1 by omega];rfl
 rw[bm u];refine a7 [(5,m)] a ?_ (g.aw a dD);simp only[U,b,a8,eY,bb,a_];exact fv
def kQ(a:Int)(d:p (Int×Int)):Int:=d.foldl (λa b=>max a (b.2+1)) a
def JO(d):∀a b:Int,kQ (max a b) d=max a (kQ b d):=by
 induction d with
 |nil=>intro a b;rfl
 |cons g e i=>
  intro a b;show kQ (max (max a b) (g.2+1)) e=max a (kQ (max b (g.2+1)) e);grind
def YK{A}{d}(a:e<c d):kQ A (d.take (e+1))=max (kQ A (d.take e)) ((d.getD e (0,0)).2+1):=by unfold kQ;grind[ih]
def kA(a:cB):Int:=if c a.2.1=0 then 1 else max 1 ((a.2.1.getD (c a.2.1-1) (0,[])).1+1)
def ac4(b):kQ (kA b) b.2.2=dv b:=by
 unfold kA dv;have a:kQ 1 b.2.2=lY b.2.2:=rfl;split
 .exact a
 rw[show max 1 ((b.2.1.getD (c b.2.1-1) (0,[])).1+1)=max ((b.2.1.getD (c b.2.1-1) (0,[])).1+1) 1 by omega,JO,a];omega
def Wo(b)(i:dQ b)(I:ml b):Z r 159 [b' b] [] (.Q [.aq (.c (.int .i64 (di b))),.aq (.c (.int .i64 (dv b)))]) []:=by
 refine Z.K func159 rfl λF=>?_;have t:=i.a1;have J:=i.a4;have O:=i.aN;have K:1<=kA b/\kA b<=4000001:=by
  unfold kA;split
  .omega
  exact Ox
 apply g.cj [(1,aH 0 0),(4,S (kA b))] [j1 b]
 .intro dy;by_cases e:c b.2.1=0
  .exact bR [(12,m),(1000005,f)] a dD (dy _ _ a (by simp[kA,e]))
  have D:=I.bm _ (mG (show c b.2.1-1<c b.2.1 by omega) (0,[]));have x:b.2.1.getD ((c b.2.1:Int)-1).toNat bk.I=b.2.1.getD (c b.2.1-1) (0,[]):=Rg;refine bR [(12,f)] a wu ?_;rw[x];refine g.aO (yC (kA b) a a a (by unfold kA;grind) bH) a a ?_;exact bR [(1000005,f)] a v kE
 refine cx a v (g.aL 1 (λd=>d<=c b.2.2) (λd:Nat=>[(1,aH 0 0),(4,S (kQ (kA b) (b.2.2.take d))),(24,a3.S b.2.2),(25,S (c b.2.2)),(26,S d)]) (λd=>[j1 b]) (λd=>c b.2.2-d) 0 a ?_ a ?_ a y ?_)
 .simp[kQ]
 .simp
 intro d o;have k:∀d,1<=kQ (kA b) (b.2.2.take d)/\kQ (kA b) (b.2.2.take d)<=4000001:=λd=>by have l:=s_ (b.2.2.take d) λB C=>I.aN B (gV C);have w:kQ 1 (b.2.2.take d)=lY (b.2.2.take d):=rfl;rw[show kA b=max (kA b) 1 by omega,JO,w];omega
 have l:=k d;have N:=k (d+1);by_cases e:d<c b.2.2
 .have D:=I.aN _ (mG e (0,0));have x:b.2.2.getD (d:Int).toNat a3.I=b.2.2.getD d (0,0):=M;have u:=YK (A:=kA b) e;refine bR [(27,f)] a wu ?_;rw[x];refine g.aO (yC (kQ (kA b) (b.2.2.take (d+1))) a a a u.symm nT) a a ?_;refine cx a bH (g.aB (d+1) a E ?_ e y);simp
 obtain rfl:d=c b.2.2:=y;rw[c8,ac4]at l⊢;have j:di b=(if c b.1=0 then 0 else(b.1.getD (c b.1-1) (0,[])).1)+1:=by unfold di;split<;>rfl
 have n:-4000000<=di b-1/\di b-1<=4000000:=by
  rw[j];split
  .omega
  exact QY
 have p:=Vz (r:=r) b.1 t;have s:=I7 (r:=r) b;rw[j]at n⊢;generalize(if c b.1=0 then 0 else(b.1.getD (c b.1-1) (0,[])).1)=R at *;have z:a9 r [(95,e5 [b' b] (b' b)),(193,e5 [a2.S b.1] (S R))]:=.cons (fu s) (.cons (fu p) .nil);refine bR [(27,m)] a E (g.aC ?_);refine cO z a ?_ (g.aw a);exact bH
abbrev qV(a:p bD):N:=.S m 1 (c a) (bS.fn a)
def TY(d):Z r 160 [bS.S d,S 4] [] (ax (.fn (.func 194) [] [.O [qV d],.O [.int .i64 4]])) []:=by refine Z.K func160 rfl λb=>?_;refine gR [] 6 a v ?_;refine g.freeze 2 0 a a a ?_;refine g.freeze 3 1 a a a ?_;exact a7 [(6,m)] a E (g.aw a nU)
def gL(b:p bD)(a:Nat):p bD:=(b.drop (4*a)).take 4
def TX(d)(W:c d<=4000000){j}{N0}{im}{x yA}(A)(V:A<=(c d+3) / 4)(e:Nat->p an)(w)(Y:∀b,c (e b)=j)(Q:∀b,jW (e b++[.loop N0 im x])=f)(N:jW (w++[.loop N0 im yA])=f)(i:∀b,b<A->4*b<c d->iD (ι:=Unit) r j [bS.S (gL d b)] (e b++[.loop N0 im x]) f (λ_=>e (b+1)++[.loop N0 im x]))(l:4*A<c d->iD (ι:=Unit) r j [bS.S (gL d A)] (e A++[.loop N0 im x]) m (λ_=>w++[.loop N0 im yA])):
  bl (ι:=Unit) r 194 [.q (.aq (.aR j)),ax (.O [qV d]),ax (.O [.int .i64 4])] (e 0++[.loop N0 im x]) (λ_=>.Q []) (λ_=>if 4*A<c d then w++[.loop N0 im yA]else e A++[.loop N0 im x]):=by
 refine bl.bR func194 rfl rfl rfl (g.aW ?_);refine a0 a v ?_;show b0 r _ (.loop _) _ _ _;refine b0.loop (br:=Nat) (λb=>b<=A) (λb=>[(0,.q (.aq (.aR j))),(1,ax (.O [qV d])),(2,ax (.O [.int .i64 4])),(4,S (4*b:Nat))]) (λb=>e b++[.loop N0 im x]) (λb=>A-b) 0 (gX _) ?_ a ?_
 .exact .cons a (eG a E)
 intro b F;refine g.aW ?_;by_cases n:4*b<c d
 .have C:U (jl (c d) (h ((4*b:Nat):Int)) q):=by simp only[jl,U];omega
  have K:bT (c d) q-bT 0 (h ((4*b:Nat):Int))=c d-4*b:=bH;refine a7 [(9,f),(1000003,f)] a bw ?_;let u:Nat->z:=λo=>([S 4,bS.S d,S (4*b:Nat),ax (.S m 1 (bT (c d) q-bT 0 (h ((4*b:Nat):Int))) (fB (bT 0 (h ((4*b:Nat):Int))) (bS.fn d))),S (bT (c d) q-bT 0 (h ((4*b:Nat):Int)):Nat),S (min 4 (c d-4*b):Nat),S (min 4 (c d-4*b):Nat)]:p z).getD o .any;refine g.cx b7 u (lV (λ_ _ _=>e b++[.loop N0 im x]) 100 101 102) oX oX oX oX ?_ ?_
  .exact⟨.aE,
   .aE,
   .aE,
   cu.eL a a a (λ_ _ _=>aV.eval (bh:=[]) be a9.nil a C),
   .aE,
   cu.eL a a a (λ_ _ _=>aV.a2 (λ_ _ _ _=>ja a) (yF _ a a a M nT)),
   .aE,v⟩
  intro z X;show g r _ _ _ _ _ (e b++[.loop N0 im x]);have R:(((4*b:Nat):Int)+((min 4 (c d-4*b):Nat):Int))=((4*b+min 4 (c d-4*b):Nat):Int):=y;refine a0 a t7 (g.aO (a1.j4 be a a a a (k:=c d) (T:=bS.fn d) (eT:=m) (λ_ _ ba=>b8 ba) a a a y y y y) a a ?_);have O:c (gL d b)=min 4 (c d-4*b):=by simp[gL]
  refine fb.le (dI:=[(0,.q (.aq (.aR j))),(19,.q (.aq (.aR j))),(1,ax (.O [qV d])),(2,ax (.O [.int .i64 4])),(4,S (4*b:Nat)),(28,bS.S (gL d b))]) ?_ (.cons a (.cons a (eG a ?_)))
  .have I:(e b++[an.loop N0 im x])[j]?=h (.loop N0 im x):=M;rcases dZ b A with B|B
   .refine g.yield (i b B n) a a a (N0:=N0) (im:=im) (ba:=x) I a a λ_=>?_;exact a7 [(30,m)] a Rn ⟨b+1,by omega,by omega,.cons a (eG a bw),a⟩
   obtain rfl:b=A:=y;refine g.yield (l n) a a a (N0:=N0) (im:=im) (ba:=x) I a a λ_=>?_;exact a7 [(30,f)] a E (g.ret ⟨(),.inl a,(bs n).symm,by grind,[],.Q [],[],a,a,a,v⟩)
  simp only[U.Z,U,bb,a_];have J:((4*b:Nat):Int).toNat=4*b:=y;have D:(((4*b:Nat):Int)+((min 4 (c d-4*b):Nat):Int)).toNat-((4*b:Nat):Int).toNat=c (gL d b):=M;refine⟨D,λo t=>?_⟩;rw[D]at t;rw[J];show bS.a8 (d.getD (4*b+o) bS.I)=bS.a8 ((gL d b).getD o bS.I);congr 1;simp only[gL,al];grind
 obtain rfl:b=A:=y;refine a7 [(9,m)] a bw (g.fI a a ?_);exact⟨(),.inr a,(bm n).symm,by grind,[],.Q [],[],a,a,a,v⟩
def nv(d:Int)(b:cB)(e:p bD)(a:Nat):Bool:=(l7 (di b+a) d (gL e a)).2&&!(c b.1+a==20)
def mZ(b:Nat->Bool):Nat->Nat->Nat
 |0,a=>a
 |d+1,a=>if b a=f then mZ b d (a+1)else a
def Es(d:Nat->Bool):∀b a,a<=mZ d b a/\mZ d b a<=a+b/\(∀e,a<=e->e<mZ d b a->d e=f)/\(mZ d b a<a+b->d (mZ d b a)=m)
 |0,a=>⟨bB _,bB _,λe g i=>absurd g (by simp[mZ]at i;omega),λj=>absurd j (by simp[mZ])⟩
 |b+1,a=>by obtain⟨g,i,l,k⟩:=Es d b (a+1);rw[mZ];grind
def jw(b:Int)(g:cB)(d:p bD)(e:Nat):p cb:=(aC e).map λa:Nat=>(l7 (di g+a) b (gL d a)).1
theorem Dn(i)(b)(d)(k):c (jw i b d k)=k:=by simp[jw]
def aaE(i)(b)(d)(k):jw i b d (k+1)=jw i b d k++[(l7 (di b+(k:Nat)) i (gL d k)).1]:=by simp[jw,List.range_succ]
def K1{b}(a:ml b):-4000000<=di b/\di b<=4000001:=by
 unfold di;split
 .omega
 rename_i d;have:=a.a1 _ (C0 d (0,[]));omega
def pF(d:Int)(a:cB)(b:Int)(i:p c6):cB×Option bD:=
 let e:=fS d i (eA a.1);let g:=mZ (nv d a e) ((c e+3) / 4) 0
 if g<(c e+3) / 4 then(([],[],[]),h [112,97,99,107,115])
 else if 20<dv a then(([],[],[]),h [115,110,97,112,115,104,111,116,115])
 else if c a.2.2=9 then(([],[],[]),h [104,101,97,100,115])
 else((a.1++jw d a e g,a.2.1++[fT (dv a) d i],a.2.2++[(b,dv a)]),q)
def Tu:Option bD->E1
 |none=>.aq (.c .bq)
 |some a=>.aq (.c (.cg 159 (.O [.V a])))
def MQ(a:cB×Option bD):z:=.Q [.agg [.c (tG a.1.1),.c (tH a.1.2.1),.c (hZ a.1.2.2)],Tu a.2]
abbrev adi(d:cB)(a:Int)(e:p c6)(b:p bD):bJ:=[(2,S a),(3,bF.S e),(4,aH 2 0),(5,aH 3 0),(8,aH 4 0),(9,aH 5 0),(10,aH 9 0),(11,aH 10 0),(12,S (dv d)),(33,ax (.fn (.func 194) [] [.O [qV b],.O [.int .i64 4]]))]
abbrev v9(g e:av×aa)(j:Int)(b:cB)(i:N)(a:p cb)(d:Int):p an:=ik g e++[.cells 27 [.c (tG b.1),.c (tH b.2.1),.c (hZ b.2.2)],.cells 3 [.c (.int .i64 j)],.cells 27 [cG,cG,cG],.cells 156 [.c i],
 .h 89 2 (c a) (a2.fn a),.h 96 2 (c b.2.1) (bk.fn b.2.1),.x,.cells 27 [.R 6 (.S (c a) 2 0 (c a)),.R 7 (.S (c b.2.1) 2 0 (c b.2.1)),.c (hZ b.2.2)],.cells 3 [.c (.int .i64 d)]]
def My{s j}{b}{n l}{Y d}{bO a}{o g}(e)(k)(aE:(v9 s j i b n Y bO++[.loop D F o])[e]?=h k):Ai 12 (v9 s j i b l d a++[.loop D F g]) e k:=by
 rcases e with _|_|_|_|_|_|_|_|_|_|_|_|e<;>first
  |(cases aE;exact .inl ⟨_,_,rfl,rfl⟩)
  |(cases aE;exact .inr (.inr (.inl ⟨_,_,_,_,rfl,rfl⟩)))
  |(cases aE;exact .inr (.inr (.inr ⟨by grind,by grind⟩)))
  |simp_all
def W3(t j)(i)(b)(e)(o)(b2:cF i=f)(x:dQ b)(ed:ml b)(C:dP o=f)(P:c (dH b.1)<=100000)(G:kV (eA b.1) (c (eA b.1))=f)(Y:g1 b.2.2=f)(aK:e=1∨e=2)(ah:1<=dv b):
  Z r 117 [b' b,S i,S e,bF.S o] (ik t j) (MQ (pF i b e o)) (ik t j):=by
 obtain⟨Q,p⟩:∃Q,Q=pF i b e o:=⟨_,rfl⟩;rw[<-p];unfold pF at p;simp only at p;refine(bl.jl (ι:=Unit) (ao:=λ_=>ik t j) (res:=λ_=>MQ Q) func117 rfl rfl rfl ?_).toZ
 refine de.seq (b0.bA (g.aW ?_));refine a0 a v (de.seq (b0.bA (g.aW ?_)));refine a0 a v (g.aF (I' b x.a1 x.bs x.a4 x.bB x.aN) [] a (a0 a v (de.seq (b0.bA (g.aW ?_)))));refine g.bF 8 a a a E (by simp;exact⟨v,v⟩) (a0 a v (g.aF (Wo b x ed) [] a (a0 a v (de.seq (de.seq (b0.bA (g.aW ?_)))))));generalize ak:eA b.1=d at *;have ab:a9 r [(162,e5 [a2.S b.1] (a3.S d)),(160,e5 [bS.S (fS i o d),S 4] (ax (.fn (.func 194) [] [.O [qV (fS i o d)],.O [.int .i64 4]])))]:=.cons (fu (ak▸Vh b.1 x.a1 P)) (.cons (fu (TY _)) .nil);have aF:c d<=4000000:=by grind[J7]
 refine g.gl b7 [S i,bF.S o,aH 2 0,a2.S b.1,a3.S d,bS.S (fS i o d),ax (.fn (.func 194) [] [.O [qV (fS i o d)],.O [.int .i64 4]])] 12 rfl rfl rfl rfl rfl ⟨aV.y,aV.y,aV.y,aV.y,
  aV.eval (bh:=[]) be ab a a,aV.dU (dB.dm (Xh t j i o d b2 C G aF).tocH [0,1] a a a a a a a bp a bp),aV.eval (bh:=[]) be ab a a,v⟩ ?_
 refine a0 a v (de.block ?_);refine de.bg (adi b e o (fS i o d)) (v9 t j i b .bq (b.1++jw i b (fS i o d) 0) (di b+(0:Nat))) a E a ?_ ?_
 .simp[jw];exactλaA _=>rfl
 have ad:∀B∈fS i o d,cC B=f:=(qW (oS C)).1;have ag:c (fS i o d)<=4000000:=fM (qW (oS C)).2 cc;generalize fS i o d=k at *;obtain⟨au,av,I,ar⟩:=Es (nv i b k) ((c k+3) / 4) 0;have aJ:=x.a1;generalize V:mZ (nv i b k) ((c k+3) / 4) 0=l at *;refine de.jW (pb:=e7 [.O [qV k],.O [.int .i64 4]]) (bY.callee a)
  (TX (yA:=?afw) k ag l y (λw=>v9 t j i b .bq (b.1++jw i b k w) (di b+(w:Nat))) (v9 t j i b (.cg 159 (.O [.V [112,97,99,107,115]])) (b.1++jw i b k l) (di b+(l:Nat))) (λw=>rfl) (λw=>rfl) a (λw J L=>?YQ) λaI=>?YR) λaA=>?b2
 case YR=>
  have O:=ar y;have R:=IZ (r:=r) t j (di b+(l:Nat)) i (gL k l) Nz b2 (λB F=>ad B (p8 (gV F))) (by simp[gL];omega);have ae:=Dn i b k l;generalize an:l7 (di b+(l:Nat)) i (gL k l)=s at *;refine iD.cK (bt:=λ_=>[.cells 89 [.c (.int .i64 s.1.1),.c (.S m 2 (c s.1.2) (bI.fn s.1.2))],.x]) (iD.intro (w:=h .ret) a a a a (g.aW ?_)) ?_ ?_
  .refine a0 a v ⟨a,a,g.aW ?_⟩;refine a0 a v (g.aF R [0,1] a ?_);have aa:c (b.1++jw i b k l)=c b.1+l:=M;have D:s.2=f->c b.1+l=20:=λaw=>by simpa[nv,an,aw]using O
   cases z:s.2 with
   |false=>
    refine a7 [(44,f),(49,f),(1000007,f)] a (by simp[z]) (g.region ?_);refine gR [] 3 a v (g.e3 52 13 a a a ?_);refine a0 a v (g.ret ?_);refine⟨a,a,(),jV a ?_⟩;simp[U.Z,U,bb,a_];and_intros<;>first|exact bu.same|exact bu.nil|rfl
   |true=>
    have:=D z;refine a7 [(44,m),(49,f),(1000007,f)] a bH (g.region ?_);refine gR [] 3 a v (g.e3 52 13 a a a ?_);refine a0 a v (g.ret ?_);refine⟨a,a,(),jV a ?_⟩;simp
  .exact λ_=>rfl
  exactλ_=>My
 case YQ=>
  have aE:=I w (gX _) J;have R:=IZ (r:=r) t j (di b+(w:Nat)) i (gL k w) Nz b2 (λB F=>ad B (p8 (gV F))) (by simp[gL];omega);have ae:=Dn i b k w;have W:=aaE i b k w;obtain⟨aq,aD⟩:(l7 (di b+(w:Nat)) i (gL k w)).2=f/\¬(c b.1)+w=20:=by simpa[nv]using aE
  generalize l7 (di b+(w:Nat)) i (gL k w)=s at *;have aa:c (b.1++jw i b k w)=c b.1+w:=M;have ai:b.1++jw i b k (w+1)=(b.1++jw i b k w)++[s.1]:=M;generalize b.1++jw i b k w=n at *;refine iD.cK (bt:=λ_=>[.cells 89 [.c (.int .i64 s.1.1),.c (.S m 2 (c s.1.2) (bI.fn s.1.2))]]) (iD.intro (w:=q) a a a a (g.aW ?_)) ?_ ?_
  .refine a0 a v ⟨a,a,g.aW ?_⟩;refine a0 a v (g.aF R [0,1] a ?_);have mm:=a2.a0 n s.1;have az:=K1 ed;refine a7 [(44,m),(49,m)] a ?_ ?_
   .simp only[U,a8,aq,show nz.bytes=32 from a,aa,eY,d_,gu,bb,a_];omega
   refine⟨a,a,(),jV a ?_⟩;have aN:c (n++[s.1])=c n+1:=E;have H:di b+(w:Int)+1=di b+((w+1:Nat):Int):=y;rw[ai,aN,<-H];simp only[U.Z,U,bb,a_];exact Qc
  .exact λ_=>rfl
  exactλ_=>My
 case b2=>
  by_cases L:4*l<c k
  .rw[bs L];refine⟨_,a,by simp,.ret,a,?_⟩;rw[bs (show l<(c k+3) / 4 by omega)]at p;subst p;simp only[uS,wc];refine .freeze 8 4 a a a (.freeze 9 5 a a a (.of ⟨(),k9.cells be [0,1] a ?_ a a a qv⟩));simp
  rw[bm L];refine⟨_,a,by simp,.normal,a,?_⟩;rw[bm (show¬l<(c k+3) / 4 by omega)]at p;show de r _ _ _ _ _;refine b0.bA (g.aW ?_);by_cases D:20<dv b
  .rw[bs D]at p;subst p;refine a7 [(63,f),(1000011,f)] a bw (g.region ?_);refine gR [] 3 a v (g.e3 66 13 a a a ?_);exact Ph
  rw[bm D]at p;have aj:c b.2.2<=9:=by simp only[g1,cp,bA]at Y;omega
  refine a7 [(63,m)] a bw (g.aF (Xi t j (dv b) i o ⟨ah,by omega⟩ b2 C) [0,1] a ?_);have mm:=bk.a0 b.2.1 (fT (dv b) i o);have aG:=x.a4;refine a7 [(1000014,f)] a ?_ ?_
  .simp only[U,show rR.bytes=32 from a,bb,a_];omega
  refine g.region ?_;refine a0 a v (g.aF (V2 b.2.2 (e,dv b) Y (by simp only[hs,cp,bA];omega) aj) [] a ?_);by_cases A:c b.2.2=9
  .rw[bs A]at p;subst p;refine a7 [(91,f),(1000016,f)] a (by simp[A]) (g.region ?_);refine gR [] 3 a v (g.e3 94 14 a a a ?_);exact Ph
  rw[bm A]at p;subst p;simp only[bm A];refine a7 [(91,m),(1000018,f)] a (by simp[A]) ?_;have ae:c (b.1++jw i b k l)=c b.1+l:=by grind[Dn]
  generalize b.1++jw i b k l=n at *;generalize X:b.2.1++[fT (dv b) i o]=u at *;have N:c u=c b.2.1+1:=M;generalize T:b.2.2++[(e,dv b)]=K at *;refine g.fY (dI:=[(8,aH 4 0),(9,aH 5 0),(10,aH 9 0)]) (ao:=ik t j++[.cells 27 [.c (tG b.1),.c (tH b.2.1),.c (hZ b.2.2)],.cells 3 [.c (.int .i64 i)],.cells 27 [cG,cG,cG],.cells 156 [.c .bq],.h 89 2 (c n) (a2.fn n),.h 96 2 (c u) (bk.fn u),.x,.cells 27 [.R 6 (.S (c n) 2 0 (c n)),.R 7 (.S (c u) 2 0 (c u)),.c (hZ K)],.cells 3 [.c (.int .i64 (di b+(l:Nat)))],.x,.bo,.cells 96 [.c (.int .i64 (fT (dv b) i o).1),.c (.S m 2 (fT (dv b) i o).2.length (cy.fn (fT (dv b) i o).2))]]) ?_ a ?_ a ?_
  .refine g.bF 6 a a a E E (g.bF 7 a a a E E (a0 a v (g.ret (.freeze 8 4 a a a (.freeze 9 5 a a a (.of ⟨(),k9.cells be [0,1] a ?_ a a a qv⟩))))));simp[hF]
  .simp
  simp only[U.Z,U,N,bb,a_];exact Qc
end
structure ka(b:cB):Prop where
 eQ:c b.1<=20
 dI:∀R∈b.1,(1<=R.1/\R.1<=99)/\c R.2<=4
 ew:c b.2.1<=21
 da:∀l∈b.2.1,(1<=l.1/\l.1<=20)/\c l.2<=6/\∀X∈l.2,c X.2<=40
 f_:c b.2.2<=9
 fr:∀u∈b.2.2,1<=u.2/\u.2<=20
def s7{a g:Type}{ae:a->p g}{k}:∀{d:p a},(∀b∈d,c (ae b)<=k)->c (d.flatMap ae)<=k*c d
 |[],_=>by simp
 |b::d,e=>by have l:=e b ir;have n:=s7 (d:=d) λj i=>e j (mt _ i);grind[Nat.mul_succ]
def wd{a:eI}(d:c a.2<=6/\∀b∈a.2,c b.2<=40):c (ea a.2)<=240:=by have:=s7 (ae:=λb:m8=>b.2) (k:=40) d.2;unfold ea;omega
def ka.fU{b:cB}(a:ka b):n4 b:=by
 have j:=a.eQ;have l:=a.ew;have k:c (ct b.1)<=4*c b.1:=s7 λg d=>by rw[kK];exact(a.dI g d).2
 have n:c (hp b.2.1)<=240*c b.2.1:=s7 λi e=>wd (a.da i e).2;refine⟨⟨by omega,λi e=>?_,by omega,by omega⟩,λg d=>?_,by omega⟩
 .have:=(a.da i e).2;grind
 have:=(a.dI g d).2;omega
def ka.ev{b}(d:ka b):dQ b:=by have a:=d.fU;have e:=d.f_;exact⟨a.fP,a.cq,a.fa,a.dX,by omega⟩
def ka.fb{b}(e:ka b):ml b:=
 ⟨λd a=>by have:=(e.dI d a).1;omega,λd a=>by have:=(e.da d a).1;omega,λd a=>by have:=e.fr d a;omega⟩
def ka.kk{b}(a:ka b):c (dH b.1)<=100000:=by
 have e:=a.eQ;have:c (R1.dH b.1)<=4*c b.1:=s7 λg d=>by rw[kK];exact(a.dI g d).2
 omega
def acP{l}{Y}(g:(ev i l Y).isSome=f):c l.2<=6/\∀b∈l.2,c b.2<=40:=by
 unfold ev at g;split at g
 .rename_i j;simp only[cp]at j;obtain⟨⟨_,o⟩,k⟩:=j;refine⟨?_,λb n=>?_⟩
  .simp only[dP,cp,bA,fh,kK]at k;omega
  have a:=aZ.1 o b n;unfold fH at a;split at a
  .cases a
  rename_i p d;split at a
  .cases a
  rename_i s e;have r:c p=c b.2:=by unfold g0 at d;split at d<;>cases d;simp
  unfold iN at e;split at e
  .rename_i j;simp[cp,gW,fJ,bA]at j;grind[vM]
  grind
 grind
def jF.h'{b}(a:jF i b):ka b:=by
 have l:c b.2.1<=20:=by have:=xf 1 a.cI λe d=>(a.a4 e d).1;omega
 have g:=a.ec;simp[g1,cp,bA,fN]at g;refine⟨a.len,λR j=>⟨(a.cq R j).c5,(a.cq R j).len.2⟩,by omega,λe d=>⟨(a.a4 e d).1,acP (a.a4 e d).2⟩,g.2,λn k=>?_⟩;have:=(sI (R:=hs) (I:=(0,0))).1 g.1 n k;simp[hs,cp,bA]at this;omega
def YL{d}(b:∀a∈d,-4000000<=a.2/\a.2<=4000000):1<=lY d:=(s_ d b).1
def acM{b}(a:ka b):1<=dv b:=by have:=YL a.fb.aN;unfold dv;split<;>omega
def abj{b}(d:ka b):1<=di b:=by
 unfold di;split
 .omega
 rename_i a;have:=(d.dI _ (C0 a (0,[]))).1;omega
def ka.cP{b}{o}{bU}(g:ka b)(B:c b.2.1<=20)(n:dP o=f)(s:fs i b o=m):ka (ft i b bU o):=by
 simp[fs,wX,dr]at s;obtain⟨E,C,I,D⟩:=s;have z:=acM g;have F:=abj g;have v:=zA.1 n;unfold ft;refine⟨by grind,λa x=>?_,by grind,λa x=>?_,by grind,λa x=>?_⟩
 .rcases fx.1 x with x|x
  .exact g.dI a x
  obtain⟨j,A,p,e,r,t,u,rfl⟩:=K6 i _ _ _ (qW (i:=i) (d:=eA b.1) (oS n)).1 a x;have e:j<di b+c (ku i b o):=e;exact⟨⟨by show 1<=j;omega,by show j<=99;omega⟩,by grind[aaP]⟩
 .rcases fx.1 x with x|x
  .exact g.da a x
  rw[gH]at x;subst x;refine⟨⟨z,by show dv b<=20;omega⟩,by show(o.map _).length<=6;grind,λJ w=>?_⟩;obtain⟨k,s,rfl⟩:=ho.1 w;have l:=(v.1 k s).2;simp[fJ,cp,bA]at l;have y:=vM k.2;show((cl k.2).map _).length<=40;grind
 rcases fx.1 x with x|x
 .exact g.fr a x
 grind
structure je(b:cB):Prop extends ka b where
 c_:b.1.Pairwise λR bd=>R.1<bd.1
 cI:b.2.1.Pairwise λl X=>l.1<X.1
 fF:∀u∈b.2.2,1<=u.1/\u.1<=2
def je.nil:je ([],[],[]):=⟨⟨by simp,by simp,by simp,by simp,by simp,by simp⟩,by simp,by simp,by simp⟩
def je.eE{b}(a:je b):rk b:=⟨a.ev,a.c_,a.fb.bm,a.fF⟩
def je.kg{b}(a:je b):c b.2.1<=20:=by have:=xf 1 a.cI λe d=>(a.da e d).1;omega
def Gz{ae:α->Int}{d}(j:d.Pairwise λa b=>ae a<ae b)(i:c d≠0)(e):∀g∈d,ae g<=ae (d.getD (c d-1) e):=by grind[List.getElem_of_mem,List.pairwise_iff_getElem]
def je.cP{i}{b}{o}{bU}(d:je b)(p:dP o=f)(s:1<=bU/\bU<=2)(n:fs i b o=m):je (ft i b bU o):=by
 refine⟨d.toka.cP d.kg p n,?_,?_,λe a=>?_⟩
 .refine nd.2 ⟨d.c_,K3 i _ _ _,λe a l g=>?_⟩;have r:e.1<di b:=by
   unfold di;split
   .grind
   rename_i j;have:=Gz (ae:=λk:cb=>k.1) d.c_ j (0,[]) e a;omega
  have:=DN i _ _ _ l g;omega
 .refine nd.2 ⟨d.cI,by simp,λe a l g=>?_⟩;rw[gH]at g;subst g;show e.1<dv b;unfold dv;split
  .grind
  rename_i j;have:=Gz (ae:=λk:eI=>k.1) d.cI j (0,[]) e a;omega
 rcases fx.1 a with a|a
 .exact d.fF e a
 grind
def je.kh{b}(a:je b)(e:eI->Bool):je (b.1,b.2.1.filter e,b.2.2):=
 ⟨⟨a.eQ,a.dI,fM (kI _ _) a.ew,λg d=>a.da g (ji.1 d).1,a.f_,a.fr⟩,a.c_,a.cI.filter _,a.fF⟩
def je.step{b}(a:je b)(bO)(cv):je (fi bO cv b.1,b.2):=by
 refine⟨⟨?_,λi d=>?_,a.ew,a.da,a.f_,a.fr⟩,?_,a.cI,a.fF⟩
 .have:c (fi bO cv b.1)<=c b.1:=by unfold fi;grind
  exact fM this a.eQ
 .obtain⟨e,s,rfl,_⟩:=Ms d;have:=a.dI e s;grind[Dh,yx]
 show (fi bO cv b.1).Pairwise _;unfold fi;refine List.Pairwise.filter _ (rp.2 (a.c_.imp λg=>?_));grind[yx]
structure fe(k:Nat)(Q:dR):Prop where
 bm:je Q.1
 b9:c Q.2.1<=k
 cM:c Q.2.2<=20
def fe.mono{d}(a:fe k d)(b:k<=A):fe A d:=⟨a.bm,fM a.b9 b,a.cM⟩
abbrev k2:dR:=(([],[],[]),[],[])
def fe.nil{k}:fe k k2:=⟨je.nil,by simp,by simp⟩
def kk(e:Int)(a:cB)(d:p Int):dR×Bool:=
 if h0 e a=f then(((a.1,a.2.1.filter λb=>d.contains b.1,a.2.2),hX (a.2.1.filter λb=>d.contains b.1),a.1.map (·.1)),f)else(k2,m)
def aeA{b}(a:ka b):c (hp b.2.1)<=240*21:=by have g:=a.ew;have i:c (hp b.2.1)<=240*c b.2.1:=s7 λe d=>wd (a.da e d).2;omega
def fe.iC{b}{Db}(e:je b):fe 6000 (kk i b Db).1:=by
 unfold kk;split
 .have d:=e.kh λa=>Db.contains a.1;refine⟨d,?_,by simp only[kK];exact e.eQ⟩;have g:=yB (b.2.1.filter λa=>Db.contains a.1) _ (bB _);have j:=aeA d.toka;grind
 exact fe.nil
def fe.step{k}{b}(a:fe k b):fe k (jz b):=by
 unfold jz;split
 .exact a
 rename_i e g d;refine⟨a.bm.step _ _,a.b9,?_⟩;have:=a.cM;grind
def pG(d:Int)(b:dR)(a:Int)(e:p c6):dR:=(ft d b.1 a e,(gz (fT (dv b.1) d e).2).foldl eZ b.2.1,b.2.2)
def qK(b:Int)(e:dR)(a:Int)(d:p c6):Bool:=hh b e&&decide (1<=a/\a<=2)&&dP d
def fe.cP{i}{k}{a}{o}{bU}(b:fe k a)(j:dP o=f)(d:1<=bU/\bU<=2)(g:fs i a.1 o=m):fe (k+240) (pG i a bU o):=by have e:=b.bm.cP j d g;refine⟨e,?_,b.cM⟩;have l:=qw a.2.1 (gz (fT (dv a.1) i o).2);have n:=tr (fT (dv a.1) i o).2;have r:=wd (e.da (fT (dv a.1) i o) (by simp[ft])).2;have p:=b.b9;show((gz _).foldl eZ a.2.1).length<=_;omega
def fe.j9{a}(b:fe k a):p3 a.1:=b.bm.fU.top3
def gC(b:p (Int×Int)):Int:=b.foldl (λd a=>64*d+21*a.1+a.2) 0
def kT(a:Int×Int)(b:p (Int×Int)):(Int×Int)×Int:=
 if g1 b=f/\a.1<=c b/\0<=a.1 then
  if gC (b.take a.1.toNat)=a.2 then(((c b:Int),gC b),0)else(a,2)
 else(a,1)
def Ev{b:p (Int×Int)}(e:∀d∈b,(1<=d.1/\d.1<=2)/\1<=d.2/\d.2<=20):∀a,0<=gC (b.take a)/\gC (b.take a)<((64 ^ a:Nat):Int)
 |0=>by simp[gC]
 |a+1=>by
  have i:=Ev e a;by_cases g:a<c b
  .have j:gC (b.take (a+1))=64*gC (b.take a)+21*(b.getD a (0,0)).1+(b.getD a (0,0)).2:=by unfold gC;grind[ih]
   grind
  grind[List.take_of_length_le]
def Dl{d}(b:g1 d=f):(∀a∈d,(1<=a.1/\a.1<=2)/\1<=a.2/\a.2<=20)/\c d<=9:=by simp only[g1,cp,bA,fN]at b;refine⟨λa e=>?_,b.2⟩;have:=(sI (R:=hs) (I:=(0,0))).1 b.1 a e;simpa only[hs,cp,bA]using this
def v8{d}(g:∀a∈d,(1<=a.1/\a.1<=2)/\1<=a.2/\a.2<=20)(i:c d<=9)(e):0<=gC (d.take e)/\gC (d.take e)<18014398509481984:=by
 rcases Nat.le_total e 9 with b|b
 .have j:=Ev g e;have:64 ^ e<=64 ^ 9:=AK y b;grind
 rw[F' y];have j:=Ev g (c d);rw[c8]at j;have:64 ^ c d<=64 ^ 9:=AK y i;grind
abbrev SG:p (Nat×bL):=[(137,Hy)]
def Xl(i)(b)(z:n4 b):Z (aj.aV V) 98 [b' b,S i] [] (bj ((aC (c b.2.1)).all (lw i b))) []:=by
 refine Z.K func98 rfl λN=>?_;have K:=z.fa;have F:=z.dX;have j:a9 (aj.aV V) SG:=.cons aep .nil;refine ca j a v (g.aL 1 (λe=>e<=c b.2.1/\∀w,w<e->lw i b w=f) (λe:Nat=>[(1,S i),(2,aH 0 0),(10,bk.S b.2.1),(11,S (c b.2.1)),(12,S e)]) (λ_=>[zg b]) (λe=>c b.2.1-e) 0 a E a E a ⟨by omega,by omega⟩ ?_);rintro e ⟨B,o⟩;by_cases u:e<c b.2.1
 .have k:b.2.1.getD e bk.I=b.2.1.getD e (0,[]):=rfl;have t:b.2.1.getD (e-1) bk.I=b.2.1.getD (e-1) (0,[]):=rfl;have l:lw i b e=(decide (1<=(b.2.1.getD e (0,[])).1/\(b.2.1.getD e (0,[])).1<=20)&&kj (·.1) (0,[]) b.2.1 e&&(ev i (b.2.1.getD e (0,[])) b.1).isSome):=rfl;have D:=qf (ae:=λn:eI=>n.1) (I:=(0,[])) (d:=b.2.1) (e:=e);have C:=F _ (ou (I:=(0,[])) u);generalize b.2.1.getD e (0,[])=n at *;generalize b.2.1.getD (e-1) (0,[])=s at *;by_cases p:1<=n.1
  rotate_left
  .refine a' j [(13,f),(20,f),(25,f),(40,f)] a ?_ (g.aX (bW.zero a ?_))
   .simp[-al,k];omega
   exact j8
  by_cases r:n.1<=20
  rotate_left
  .refine a' j [(13,f),(20,m),(25,f),(40,f)] a ?_ (g.aX (bW.zero a ?_))
   .simp[-al,k];omega
   exact j8
  rw[fq ⟨p,r⟩,fr]at l;by_cases x:e=0
  .subst x;rw[show kj (·.1) (0,[]) b.2.1 0=f from a,fr]at l;cases A:(ev i n b.1).isSome with
   |false=>
    refine a' j [(13,f),(20,m),(25,m),(27,m),(40,m),(50,f)] a Og (g.aX (bW.zero a ?_));rw[kL u (l.trans A)];simp
   |true=>
    refine a' j [(13,f),(20,m),(25,m),(27,m),(40,m),(50,m)] a ?_ (g.aB 1 a E E ⟨u,iJ o (l.trans A)⟩ y);exact Og
  rw[D x]at l;by_cases J:s.1<n.1
  rotate_left
  .refine a' j [(13,f),(20,m),(25,m),(28,f),(38,f),(40,f)] a ?_ (g.aX (bW.zero a ?_))
   .simp[-al,k,t,a8];omega
   exact j8
  rw[fq J,fr]at l;cases A:(ev i n b.1).isSome with
  |false=>
   refine a' j [(13,f),(20,m),(25,m),(28,f),(38,m),(40,m),(50,f)] a QL (g.aX (bW.zero a ?_));rw[kL u (l.trans A)];simp
  |true=>
   refine a' j [(13,f),(20,m),(25,m),(28,f),(38,m),(40,m),(50,m)] a ?_ (g.aB (e+1) a E E ⟨u,iJ o (l.trans A)⟩ y);exact QL
 obtain rfl:e=c b.2.1:=y;rw[fN.2 o];refine a' j [(13,m)] a E (g.aC ?_);exact ca j a v (g.aw a)
def ade(i)(b):h0 i b=(cF i&&tv i b&&(aC (c b.2.1)).all (lw i b)&&g1 b.2.2):=by unfold h0 tv;cases(aC (c b.1)).all (nL i b.1)<;>cases decide (ct b.1).Nodup<;>cases(aC (c b.2.1)).all (lw i b)<;>cases cF i<;>cases g1 b.2.2<;>cases decide (c b.1<=20)<;>rfl
abbrev SA:bL:=er o' db (λb a=>bj (tv a b)) λb a=>[cF a=f,n4 b]
abbrev SE:bL:=er o' db (λa b=>bj ((aC (c a.2.1)).all (lw b a))) λa _=>[n4 a]
def Xt(i)(b)(ae:n4 b):Z (aj.aV V) 51 [S i,b' b] [] (bj (h0 i b)) []:=by
 refine Z.K func51 rfl λk=>?_;have d:a9 (aj.aV V) [(95,Hx),(96,dm db (λi=>bj (cF i)) λ_=>[]),(97,SA),(98,SE),(99,oa)]:=.cons aen (.cons t96 (.cons (.bn λb i e=>WC i b e.1 e.2) (.cons (.bn λb i e=>Xl i b e) (.cons tS .nil))));have j:=a2.E b.1;have s:=bk.E b.2.1;have x:=a3.E b.2.2;rw[ade];cases b2:cF i
 .exact a' d [(10,m),(15,m),(20,m)] a (by simp[b2,j,s,x,a2.U,bk.U,a3.U]) (g.aw a)
 cases ai:tv i b
 .exact a' d [(10,f),(15,m),(20,m)] a (by simp[b2,j,s,x,a2.U,bk.U,a3.U,ae,ai]) (g.aw a)
 cases C:(aC (c b.2.1)).all (lw i b)
 .exact a' d [(10,f),(15,f),(20,m)] a Qh (g.aw a)
 exact a' d [(10,f),(15,f),(20,f)] a Qh (g.aw a oY)
abbrev xC:bL:=er db o' (λb a=>bj (h0 b a)) λ_ a=>[n4 a]
def EG:bM (aj.aV V) 51 xC:=.bn λb d a=>Xt b d a
abbrev k6(b a:av×aa):p an:=ik b a++[Am]
def qF(d:Int)(b:cB)(a:Int)(e:p c6):cB×Bool:=
 if h0 d b=f/\(a=1∨a=2)/\dP e=f then(match(pF d b a e).2 with|none=>((pF d b a e).1,f)|some _=>(b,m))else(([],[],[]),m)
structure F7(i:Int)(b:cB):Prop where
 kv:cF i=f
 sp:c (dH b.1)<=100000
 ky:kV (eA b.1) (c (eA b.1))=f
 ec:g1 b.2.2=f
 a4:1<=dv b
def pk:∀a,a<3->([0,1,2]:p Nat)[a]?=h a:=cc
def TG{b:aj V}(ab):Z b 118 [ax .bq,og ab] [] (bj m) []:=by refine Z.K func118 rfl λd=>?_;refine a0 a v ?_;refine g.aO (Dz a underlying156 a a a) a a ?_;exact a7 [(9,f)] a E (g.aw a)
def Xv(w u)(i)(b)(j)(o)(p:dQ b)(ba:n4 b)(F:ml b)(G:a8 .i64 j)(Q:h0 i b=f->F7 i b):
  Z (aj.aV V) 78 [S i,b' b,S j,bF.S o] (k6 w u) (MO (qF i b j o).1 (qF i b j o).2) (k6 w u):=by
 refine Z.bp be func78 rfl rfl rfl λH=>?_;have l:a9 (aj.aV V) [(51,xC),(39,rC)]:=.cons EG (.cons wa .nil);by_cases e:h0 i b=f
 .by_cases d:j=1∨j=2
  .by_cases k:dP o=f
   .have n:qF i b j o=(match(pF i b j o).2 with|none=>((pF i b j o).1,f)|some _=>(b,m)):=bs ⟨e,d,k⟩;rw[n];obtain⟨N,C,z,D,O⟩:=Q e;have B:=W3 (r:=aj.aV V) w u i b j o N p F k C z D d O;apply g.cj [(0,S i),(2,S j),(3,bF.S o),(5,aH 3 0),(8,aH 4 0)] (k6 w u++[.cells 27 [.c (tG b.1),.c (tH b.2.1),.c (hZ b.2.2)],.cells 27 [cG,cG,cG]])
    .intro dy;rcases d with rfl|rfl
     .refine bg l [(17,m),(20,m),(25,m),(29,m),(1000003,f)] a Pk (dy _ _ a ?_);simp
     refine bg l [(17,m),(20,f),(25,m),(29,m),(1000003,f)] a Pk (dy _ _ a ?_);simp
    have K:∀y:aa,Z (aj.aV V) 118 [ax .bq,og y] [] (bj m) []:=λy=>TG y;generalize pF i b j o=J at *;obtain⟨W,R⟩:=J;cases R with
    |none=>
     have x:=B;refine cO l a v (g.aF x [0,1] a (bg l [(1000005,f)] a v (g.hS 12 6 a a λA=>?_)));refine cO l a v (g.g9 40 a ?_);exact g.aF (K _) [] a (bg l [(41,m)] a E nS)
    |some T=>
     have x:=B;refine cO l a v (g.aF x [0,1] a (bg l [(1000005,f)] a v (g.hS 12 6 a a λA=>?_)));refine g.iU 11 a λI=>?_;refine cO l a v (g.g9 40 a ?_);refine g.aF (TE I A) [2,6] a (bg l [(41,f)] a E (g.aF (pg b p.a1 p.bs p.a4 p.bB p.aN) [] a (qT l [] 2 a v (g.hU ?_))));exact g.bF 7 a a a E E (g.bF 8 a a a E E Pw)
   have n:qF i b j o=(([],[],[]),m):=bm λs=>k s.2.2;rw[n];have t:dP o=m:=M;rcases d with rfl|rfl
   .exact bg l [(17,m),(20,m),(25,m),(29,f)] a QH nS
   exact bg l [(17,m),(20,f),(25,m),(29,f)] a QH nS
  have n:qF i b j o=(([],[],[]),m):=bm λs=>d s.2.1;rw[n];exact bg l [(17,m),(20,f),(25,f),(29,f)] a bH nS
 have n:qF i b j o=(([],[],[]),m):=bm λs=>e s.1;rw[n];refine bg l [(17,f),(25,f),(29,f)] a ?_ ?_
 .simp only[U,a2.E,bk.E,a3.E];and_intros<;>first|rfl|exact True.intro|exact a2.U _|exact bk.U _|exact a3.U _|exact ba|grind
 exact nS
section
variable {r:aj V}
def Ua(b)(d:dQ b):Z r 69 [b' b] [] (b' b) []:=by refine(qs b d.a1 d.bs d.a4 d.bB d.aN).b2 a ?_ a;simp
abbrev BA:bL:=dm o' (λa=>b' a) λa=>[dQ a]
def ME:bM r 69 BA:=.bb λb a=>Ua b a
def IE(b)(e:dQ b.1)(j:c b.2.1<=4000000)(l:c b.2.2<=4000000):Z r 37 [gw b] [] (.q (.agg [cL a2 b.1.1,cL bk b.1.2.1,cL a3 b.1.2.2,cL aB b.2.1,.r 0 1 (c b.2.2) (aB.fn b.2.2)])) [.r 3 1 (c b.2.2) (aB.fn b.2.2)]:=by
 refine Z.bp be func37 rfl rfl rfl λk=>?_;have i:a9 r [(69,BA)]:=.cons ME .nil;refine bg i [(2000009,f)] a ?_ ?_
 .simp only[U,a2.E,a2.U,bk.E,bk.U,a3.E,a3.U,e,bb,a_,show ef.bytes=8 from a,lF];exact fv
 refine g.bg [gn b,.cells 30 [cL a2 b.1.1,cL bk b.1.2.1,cL a3 b.1.2.2,cL aB b.2.1,.r 2 1 (c b.2.2) (aB.fn b.2.2)],.r 3 1 (c b.2.2) (aB.fn b.2.2)] a ?_ ?_
 .simp[a2.E,bk.E,a3.E,pa]
 refine g.bj () [2] ?_ (λn d=>absurd d E);simp
def Uc(b)(d:dQ b.1)(e:c b.2.1<=4000000)(g:c b.2.2<=4000000):Z r 37 [gw b] [] (gw b) []:=
 (IE b d e g).b2 a E a
abbrev xu:bL:=dm (Ay CH) (λa=>gw a) λa=>[dQ a.1,c a.2.1<=4000000,c a.2.2<=4000000]
def EA:bM r 37 xu:=.bb λb a=>Uc b a.1 a.2.1 a.2.2
abbrev Kj(b:cb)(a:p cY):p an:=[xw b,.cells 89 [.c (.int .i64 0),cG],.cells 89 [.c (.int .i64 b.1),.r 3 2 (c a) (bI.fn a)],.r 131 2 (c a) (bI.fn a)]
def CO{d}{a:α->Bool}(g:e<c d)(b):(d.take (e+1)).filter a=if a (d.getD e b)=f then(d.take e).filter a++[d.getD e b]else(d.take e).filter a:=by rw[ih g b,List.filter_append,sA];split<;>simp
def CN(d)(a:α->Bool)(b:e<=c d):c ((d.take e).filter a)<=e:=fM (kI _ _) bV
def VK(R)(b)(C:c R.2<=4000000):Z r 70 [fG R,aB.S b] [] (fG (hH R b)) []:=by
 refine Z.bp be func70 rfl rfl rfl λo=>?_;have j:a9 r [(49,uX)]:=.cons zq .nil;refine bg j [(1000002,f)] a v (g.cm 2 1 131 2 (bI.fn []) a a ?_);refine ca j a v ?_;refine g.aL 4 (λe=>e<=c R.2) (λe:Nat=>[(1,aB.S b),(2,aH 0 0),(4,aH 1 0),(5,aH 2 0),(6,S e)])
  (λe=>Kj R ((R.2.take e).filter λd=>b.contains d.1)) (λe=>c R.2-e) 0 a E a E a y ?_
 intro e k;have n:=CN R.2 (λd=>b.contains d.1) k;by_cases u:e<c R.2
 .have I:R.2.getD e bI.I=d' R e:=rfl;have s:(R.2.take (e+1)).filter (λd=>b.contains d.1)=if b.contains (d' R e).1=f then(R.2.take e).filter (λd=>b.contains d.1)++[d' R e]else(R.2.take e).filter (λd=>b.contains d.1):=CO u (0,[]);generalize(R.2.take e).filter (λd=>b.contains d.1)=l at *;generalize d' R e=d at *;cases ae:b.contains d.1 with
  |true=>
   rw[bs ae]at s;have C:=bI.a0 l d;refine bg j [(15,f),(25,f)] a PG (g.aB (e+1) a E ?_ u y);exact Pp
  |false=>
   rw[bm dD]at s;refine bg j [(15,f),(25,m)] a PN (g.aB (e+1) a E ?_ u y);simp_all
 exact Pr
abbrev Hg:bL:=er (jH bI) (e3 aB) (λb a=>fG (hH b a)) λb _=>[c b.2<=4000000]
def ad5:bM r 70 Hg:=.bn λd a b=>VK d a b
abbrev j4(b:dR)(a:Bool):z:=.Q [.agg (v_ b),.aq (.c (.bool a))]
abbrev mb:p O:=[cG,cG,cG,cG,cG]
def stepT(b:Int)(a:p Int)(d:p cb)(e:Nat):p cb:=fi b a (d.take e)
def ada{bO}{cv}{Y}(a:e<c Y):stepT bO cv Y (e+1)=if(iY bO cv (Y.getD e (0,[]))).2.length=0 then stepT bO cv Y e else stepT bO cv Y e++[iY bO cv (Y.getD e (0,[]))]:=by unfold stepT fi;rw[ih a (0,[]),List.map_append,List.filter_append,List.map_singleton];grind
def ac'(bO)(cv)(Y)(a:e<=c Y):c (stepT bO cv Y e)<=e:=by unfold stepT fi;grind
def Xq(b)(k:dQ b.1)(e:c b.2.1<=4000000)(j:b.2.2=[]):Z r 36 [gw b] [] (j4 b m) []:=by refine Z.bG func36 rfl rfl rfl λi=>?_;have d:a9 r [(37,xu)]:=.cons EA .nil;refine bg d [(13,f)] a bH ?_;refine g.freeze 2 1 a a a ?_;refine g.cu be [] a ?_ a a a fO;simp[a2.E,bk.E,a3.E,aB.E]
abbrev adf(b:cB)(a:p Int)(e:p Int)(d:p cb):p an:=[gn (b,a,e),.cells 30 mb,gn (b,a,e),.r 89 2 (c d) (a2.fn d)]
def _root_.Go.AM.c1.jc(a:c1 α)(l)(d)(g:k=c d):bu k (fB 1 (a.fn (l::d))) (a.fn d):=by intro e b;simp only[fB,c1.fn,gB,al,Nat.add_comm 1 e,n8]
def Xr(b)(cv l)(bO)(w)(F:l=bO::w)(x:dQ b)(K:c cv<=4000000)(J:c l<=4000000):Z r 36 [gw (b,cv,l)] [] (j4 ((fi bO cv b.1,b.2),cv,w) f) []:=by
 refine Z.bG func36 rfl rfl rfl λO=>?_;have n:a9 r [(37,xu),(70,Hg)]:=.cons EA (.cons ad5 .nil);have M:0<c l:=dD;refine bg n [(13,m),(1000005,f)] a ?_ ?_
 .simp only[U,a2.E,a2.U,bk.E,bk.U,a3.E,a3.U,aB.E,aB.U,x,K,J,bb,a_,eY,d_];omega
 refine g.bO 5 89 2 a a ?_;refine cO n a v ?_;have N:=x.a1;refine g.aL 4 (λe=>e<=c b.1) (λe:Nat=>[(1,aH 0 0),(2,aH 1 0),(4,aH 2 0),(5,.q (.aq (.r 3 2 (c (stepT bO cv b.1 e)) (a2.fn (stepT bO cv b.1 e))))),(6,S e)])
  (λe=>adf b cv l (stepT bO cv b.1 e)) (λe=>c b.1-e) 0 a ?_ a ?_ a y ?_
 .simp[stepT,fi]
 .simp[stepT,fi,a2.E,bk.E,a3.E,aB.E]
 intro e u;by_cases o:e<c b.1
 .have I:b.1.getD e a2.I=b.1.getD e (0,[]):=rfl;have A:=x.bs _ (mG o (0,[]));have j:=ada (bO:=bO) (cv:=cv) o;have Q:=ac' bO cv b.1 u;have t:l.getD (Int.toNat 0) aB.I=bO:=bH;generalize stepT bO cv b.1 e=z at *;generalize b.1.getD e (0,[])=i at *;by_cases k:i.1=bO
  .have C:iY bO cv i=hH i cv:=by unfold iY;exact bw
   rw[C]at j;have d:=a2.a0 z (hH i cv);have R:(hH i cv).2.length<=c i.2:=kI _ _;have s:(i.1,i.2)=i:=rfl;by_cases p:(hH i cv).2.length=0
   .rw[bs p]at j;refine bg n [(21,f),(36,f),(44,m)] a ?_ (g.aB (e+1) a ?_ ?_ o y)
    .simp only[U,c9,I,t,s,A,bI.E,bI.U,aB.E,aB.U,a8,bA,dr,gW,bb,a_];exact zP
    .rw[j];simp
    rw[j];simp
   rw[bm p]at j;refine bg n [(21,f),(36,f),(44,f)] a ?_ (g.aB (e+1) a ?_ ?_ o y)
   .simp only[U,c9,I,t,s,A,bI.E,bI.U,aB.E,aB.U,a8,show nz.bytes=32 from a,bA,dr,gW,bb,a_];exact zP
   .exact PK
   exact PK
  have C:iY bO cv i=i:=by unfold iY;exact bw
  rw[C]at j;have d:=a2.a0 z i;by_cases p:c i.2=0
  .rw[bs p]at j;refine bg n [(21,f),(36,m),(44,m)] a ?_ (g.aB (e+1) a ?_ ?_ o y)
   .simp only[U,c9,I,t,a8,bA,dr,eY,d_,bb,a_];exact zP
   .rw[j];simp
   rw[j];simp
  rw[bm p]at j;refine bg n [(21,f),(36,m),(44,f)] a ?_ (g.aB (e+1) a ?_ ?_ o y)
  .simp only[U,c9,I,t,a8,show nz.bytes=32 from a,bA,dr,eY,d_,bb,a_];exact zP
  .exact Pu
  exact Pu
 obtain rfl:e=c b.1:=y;have D:stepT bO cv b.1 (c b.1)=fi bO cv b.1:=by unfold stepT;simp
 rw[D];refine bg n [(21,m)] a E (g.aC ?_);refine cO n a bw (g.freeze 2 1 a a a ?_);refine g.cu be [] a ?_ a a a fO;have B:=aB.jc bO w a;rw[<-F]at B;simp only[U.Z,U,bT,bb,a_];and_intros<;>first|exact bu.same|exact B|simp_all|grind|rfl
def qA(a:dR):Bool:=!a.2.2.isEmpty
def Xp(a)(g:dQ a.1)(i:c a.2.1<=4000000)(l:c a.2.2<=4000000):Z r 36 [gw a] [] (j4 (jz a) (qA a)) []:=by
 obtain⟨e,b,k⟩:=a;cases k with
 |nil=>exact Xq (e,b,[]) g i rfl
 |cons d j=>exact Xr e b (d::j) d j rfl g i l
abbrev GC(d:cB)(a:p eI)(b:p Int):p an:=[j1 d,.cells 30 mb,.cells 30 [cL a2 d.1,.r 4 2 (c a) (bk.fn a),cL a3 d.2.2,cG,.r 5 1 (c b) (aB.fn b)],j1 d,.r 96 2 (c a) (bk.fn a),.r 3 1 (c b) (aB.fn b)]
def map_take{b:Type}{d}{ae:α->b}(g:e<c d)(a):(d.take (e+1)).map ae=(d.take e).map ae++[ae (d.getD e a)]:=by rw[ih g a,List.map_append];rfl
def Gk(d)(a:eI->Bool):c (hp (d.filter a))<=c (hp d):=by
 induction d with
 |nil=>simp
 |cons e d b=>
  unfold hp at *;grind
def TP(i)(b)(j)(o:dQ b)(z:p3 b):Z r 35 [S i,b' b,aB.S j] [] (j4 (kk i b j).1 (kk i b j).2) []:=by
 refine Z.bG func35 rfl rfl rfl λN=>?_;have l:a9 r [(50,BJ),(69,BA),(49,uX),(48,BC)]:=.cons MP (.cons ME (.cons zq (.cons MH .nil)));have M:=o.a1;have F:=o.a4;unfold kk;cases t:h0 i b with
 |false=>
  refine bg l [(15,f)] a ?_ ?_
  .simp only[U,a2.E,a2.U,bk.E,bk.U,a3.E,a3.U,t,o.a1,o.a4,bb,a_,is];exact z.dX
  refine g.freeze 6 1 a a a ?_;exact Qs
 |true=>
 rw[bs a];refine bg l [(15,m),(1000006,f)] a ?_ ?_
 .simp only[U,a2.E,a2.U,bk.E,bk.U,a3.E,a3.U,t,o.a1,o.a4,o,bb,a_,gu];exact z.dX
 refine g.cm 2 1 96 2 (bk.fn []) a a ?_;refine g.cm 2 4 3 1 (aB.fn []) a a ?_;refine cO l a v ?_;refine g.aL 6 (λe=>e<=c b.2.1) (λe:Nat=>[(2,aB.S j),(4,aH 0 0),(6,aH 1 0),(8,aH 2 0),(9,aH 3 0),(10,S e)])
  (λe=>GC b ((b.2.1.take e).filter λk=>j.contains k.1) []) (λe=>c b.2.1-e) 0 a ?_ a ?_ a y ?_
 .simp
 .simp[a2.E,bk.E,a3.E]
 intro e p;have C:=CN b.2.1 (λk=>j.contains k.1) p;by_cases n:e<c b.2.1
 .have w:b.2.1.getD e bk.I=b.2.1.getD e (0,[]):=rfl;have s:(b.2.1.take (e+1)).filter (λk=>j.contains k.1)=if j.contains (b.2.1.getD e (0,[])).1=f then(b.2.1.take e).filter (λk=>j.contains k.1)++[b.2.1.getD e (0,[])]else(b.2.1.take e).filter (λk=>j.contains k.1):=CO n (0,[]);generalize(b.2.1.take e).filter (λk=>j.contains k.1)=x at *;generalize b.2.1.getD e (0,[])=k at *;cases A:j.contains k.1 with
  |true=>
   rw[bs A]at s;have d:=bk.a0 x k;refine bg l [(30,f),(40,f)] a ?_ (g.aB (e+1) a E ?_ n y)
   .simp[-al,-List.contains_eq_mem,w,n,A,aB.E,aB.U,a8,show rR.bytes=32 from a];omega
   exact QI
  |false=>
   rw[bm dD]at s;refine bg l [(30,f),(40,m)] a ?_ (g.aB (e+1) a E ?_ n y)
   .simp[-al,-List.contains_eq_mem,w,n,A,aB.E,aB.U,a8];omega
   simp_all
 obtain rfl:e=c b.2.1:=y;rw[c8]at C⊢;have D:=Gk b.2.1 λk=>j.contains k.1;have I:lv (b.1,b.2.1.filter (λk=>j.contains k.1),b.2.2):=λk d=>o.bB k (ji.1 d).1;have J:=z.ey;generalize b.2.1.filter (λk=>j.contains k.1)=B at *;refine bg l [(30,m)] a E (g.aC ?_);refine cO l a v ?_;refine g.aL 6 (λe=>e<=c b.1) (λe:Nat=>[(2,aB.S j),(4,aH 0 0),(6,aH 1 0),(8,aH 2 0),(11,S e)])
  (λe=>GC b B ((b.1.take e).map (·.1))) (λe=>c b.1-e) 0 a E a E a y ?_
 intro e p;have K:c ((b.1.take e).map (·.1))=e:=bV;by_cases n:e<c b.1
 .have w:b.1.getD e a2.I=b.1.getD e (0,[]):=rfl;have s:=map_take (ae:=λu:cb=>u.1) n (0,[]);generalize(b.1.take e).map (λu:cb=>u.1)=x at *;generalize b.1.getD e (0,[])=u at *;have d:=aB.a0 x u.1;refine bg l [(57,f)] a ?_ (g.aB (e+1) a E ?_ n y)
  .simp[-al,w,n,a8,show ef.bytes=8 from a];omega
  exact QI
 obtain rfl:e=c b.1:=y;rw[c8];refine bg l [(57,m)] a E (g.aC ?_);refine cO l a bH (g.freeze 8 2 a a a ?_);refine g.freeze 6 1 a a a ?_;refine g.cu be [] a ?_ a a a fO;simp[bk.E]
abbrev G0:bL:=kn db o' (e3 aB) (λd a b=>j4 (kk d a b).1 (kk d a b).2) λ_ a _=>[dQ a,p3 a]
def adG:bM r 35 G0:=.c8 λd e b a=>TP d e b a.1 a.2
def rQ(a:dW)(b:cb):cb:=if b.1=a.2.1/\0<=a.2.2.1/\a.2.2.1<c b.2 then(b.1,gQ b.2 a.2.2.1.toNat a.2.2.2)else b
def oB(a:cB)(b:dW):cB:=
 if b.1=1 then(a.1.filter λd=>!(d.1==b.2.1),a.2.1,a.2.2)
 else if b.1=2 then(if b.2.1<0∨b.2.1>c a.2.2 then a else(a.1,a.2.1.filter λd=>!jv b.2.1.toNat a.2.2 d,a.2.2.take b.2.1.toNat))
 else if b.1=3 then(a.1.map (rQ b),a.2)
 else if b.1=4 then(if 0<=b.2.1/\b.2.1<c a.2.2 then(a.1,a.2.1,a.2.2.set b.2.1.toNat (3-(a.2.2.getD b.2.1.toNat (0,0)).1,(a.2.2.getD b.2.1.toNat (0,0)).2))else a)
 else a
def JR{b}{d}(e:pY b d):b.1.map (rQ d)=b.1:=by apply ru E;intro g i a;rw[List.getElem_map];have:=e g a;rw[al,bK a,h4]at this;exact bm this
def JQ{b}{d}{i0}(a:sl b d i0 A):b.1.map (rQ d)=(g6 b d i0 A).1:=by
 have n:=a.a_;apply qd;intro e;have k:(g6 b d i0 A).1=b.1.set i0 ((b.1.getD i0 (0,[])).1,gQ (b.1.getD i0 (0,[])).2 A d.2.2.2):=rfl;rw[k,nf];by_cases i:e<c b.1
 .have s:b.1[e]?=h (b.1.getD e (0,[])):=M;by_cases g:e=i0
  .subst g;rw[ip i,s];have o:=a.gy;have j:=a.b6;simp only[lH,rQ];rw[bs ⟨a.c5,by omega,by omega⟩,j,c9]
  rw[kJ (λa=>g a.symm),s];simp only[lH,rQ];rw[bm (λl=>a.b4 e i g l.1)]
 grind
structure RL(r:aj V)(b:cB)(d:dW)(az:cB):Prop where
 fp:dQ az
 dx:Z r 68 [b' b,eF d] [] (b' az) []
def zm{b}(l:rk b)(d):RL r b d (oB b d):=by
 have a:=l.size;have C:=a.aN;unfold oB;by_cases n:d.1=1
 .rw[bs n];exact⟨⟨fM (kI _ _) a.a1,λt g=>a.bs t (ji.1 g).1,a.a4,a.bB,a.aN⟩,W6 b d a n⟩
 rw[bm n];by_cases i:d.1=2
 .rw[bs i];by_cases e:d.2.1<0∨d.2.1>c b.2.2
  .rw[bs e];exact⟨a,I8 b d b a i (TJ b d.2.1 a.aN e)⟩
  rw[bm e];have o:d.2.1=(d.2.1.toNat:Nat):=y;have u:=TK (r:=r) b d.2.1.toNat y a.a4 l.num a.aN;rw[<-o]at u;refine⟨⟨a.a1,a.bs,fM (kI _ _) a.a4,λB z=>a.bB B (ji.1 z).1,?_⟩,I8 b d _ a i u⟩;simp;omega
 rw[bm i];by_cases e:d.1=3
 .rw[bs e];rcases JS l d with⟨i0,A,p⟩|o
  .have s:(b.1.map (rQ d),b.2)=g6 b d i0 A:=by rw[JQ p]
   rw[s];refine⟨⟨by simpa using a.a1,λt g=>?_,a.a4,a.bB,a.aN⟩,W7 b d a e i0 A p⟩;rcases AE g with g|rfl
   .exact a.bs t g
   simpa[gQ]using a.bs _ (vi p.a_)
  rw[JR o];exact⟨a,Xb b d a e o⟩
 rw[bm e];by_cases j:d.1=4
 .rw[bs j];by_cases k:0<=d.2.1/\d.2.1<c b.2.2
  .rw[bs k];have w:(b.2.2.getD (0+d.2.1.toNat) a3.I)∈b.2.2:=M;have u:=l.aN _ w;have x:a8 .i64 (3-ly b d):=Rb;have v:=W9 (r:=r) b d a j k.1 k.2 x;have s:b.2.2.set (0+d.2.1.toNat) (3-ly b d,(b.2.2.getD (0+d.2.1.toNat) a3.I).2)=b.2.2.set d.2.1.toNat (3-(b.2.2.getD d.2.1.toNat (0,0)).1,(b.2.2.getD d.2.1.toNat (0,0)).2):=M;rw[s]at v;exact⟨⟨a.a1,a.bs,a.a4,a.bB,by simpa using a.aN⟩,v⟩
  rw[bm k];exact⟨a,W_ b d a j k⟩
 rw[bm j];exact⟨a,Xa b d a n i e j⟩
def J5{b}(n:rk b)(d):Z r 77 [b' b,eF d] [] (b' (oB b d)) []:=by
 have e:=n.size;have v:=e.aN;unfold oB;by_cases k:d.1=1
 .rw[bs k];exact VP b d e k
 rw[bm k];by_cases g:d.1=2
 .rw[bs g];by_cases a:d.2.1<0∨d.2.1>c b.2.2
  .rw[bs a];exact Cy (VT b d e g a)
  rw[bm a];have l:d.2.1=(d.2.1.toNat:Nat):=y;exact VR b d e g d.2.1.toNat l y
 rw[bm g];by_cases a:d.1=3
 .rw[bs a];rcases JS n d with⟨i0,A,o⟩|l
  .have p:(b.1.map (rQ d),b.2)=g6 b d i0 A:=by rw[JQ o]
   rw[p];exact VU b d e a i0 A o
  rw[JR l];exact VW b d e a l
 rw[bm a];by_cases i:d.1=4
 .rw[bs i];by_cases j:0<=d.2.1/\d.2.1<c b.2.2
  .rw[bs j];have s:(b.2.2.getD (0+d.2.1.toNat) a3.I)∈b.2.2:=M;have w:=n.aN _ s;have t:a8 .i64 (3-ly b d):=Rb;have u:=VZ (r:=r) b d e i j.1 j.2 t;grind
  rw[bm j];exact VY b d e i j
 rw[bm i];exact Cy (V0 b d e k g a i)
structure n1(d:p (Int×Int)):Prop where
 aN:∀l∈d,(1<=l.1/\l.1<=2)/\1<=l.2/\l.2<=20
 cA:c d<=9
theorem n1.of{d}(a:g1 d=f):n1 d:=⟨(Dl a).1,(Dl a).2⟩
def n1.take{d}(a:n1 d)(e):n1 (d.take e):=⟨λg b=>a.aN g (gV b),by have:=a.cA;rw[List.length_take];omega⟩
def Mx{d}(a:e<c d):gC (d.take (e+1))=64*gC (d.take e)+21*(d.getD e (0,0)).1+(d.getD e (0,0)).2:=by unfold gC;rw[ih a (0,0),uE];rfl
def Xz(d)(e:n1 d):Z r 108 [a3.S d] [] (S (gC d)) []:=by
 refine Z.K func108 rfl λn=>?_;have t:=e.cA;refine a0 a v (g.aL 0 (λb=>b<=c d) (λb:Nat=>[(0,a3.S d),(3,S (gC (d.take b))),(4,S b)]) (λ_=>[]) (λb=>c d-b) 0 a (by simp[gC]) a v a y ?_);intro b k;by_cases i:b<c d
 .have j:d.getD b a3.I=d.getD b (0,0):=rfl;have p:=Mx i;have o:=v8 e.aN e.cA b;have l:=v8 e.aN e.cA (b+1);have s:=e.aN _ (mG i (0,0));refine a7 [(8,f)] a ?_ (g.aB (b+1) a ?_ v i y)
  .simp only[U,c9,j,a8,bA,bb,a_];exact fv
  simp only[U.Z,U,c9,j,bb,a_];and_intros<;>first|exact bu.same|omega
 obtain rfl:b=c d:=y;rw[c8];exact PI
abbrev HB:bL:=dm (e3 a3) (λa=>S (gC a)) λa=>[n1 a]
def aes:bM r 108 HB:=.bb λb a=>Xz b a
abbrev qo(a:Int×Int):z:=.q (.agg [.c (.int .i64 a.1),.c (.int .i64 a.2)])
abbrev pM(a:(Int×Int)×Int):z:=.Q [.agg [.c (.int .i64 a.1.1),.c (.int .i64 a.1.2)],.aq (.c (.int .i64 a.2))]
def W5(A)(d)(u:c d<=4000000):Z r 67 [qo A,a3.S d] [] (pM (kT A d)) []:=by
 refine Z.bG func67 rfl rfl rfl λt=>?_;have b:a9 r [(94,oa),(108,HB)]:=.cons MG (.cons aes .nil);unfold kT;cases b2:g1 d with
 |false=>
  rw[bm E];exact bg b [(8,f),(15,f),(20,f)] a FO se
 |true=>
 have i:=n1.of b2;by_cases l:A.1<=c d
 rotate_left
 .rw[bm (by simp[l])];exact bg b [(8,m),(15,f),(20,f)] a PO se
 by_cases I:0<=A.1
 rotate_left
 .rw[bm sj];exact bg b [(8,m),(15,m),(20,f)] a O9 se
 rw[bs ⟨rfl,l,I⟩];have s:(A.1.toNat:Int)=A.1:=ro I;have n:a3.af (bT (c d) (h A.1)-bT 0 q) (fB (bT 0 q) (a3.fn d))=d.take A.1.toNat:=by have o:bT (c d) (h A.1)-bT 0 q=A.1.toNat:=wG;rw[o,a3.hs d (λp j=>by simp[fB,bT]) y]
 have k:a3.bW (bT (c d) (h A.1)-bT 0 q) (fB (bT 0 q) (a3.fn d)):=a3.hd d (λp j=>by simp[fB,bT]);by_cases e:gC (d.take A.1.toNat)=A.2
 .rw[bs e];refine bg b [(8,m),(15,m),(20,m),(29,m)] a ?_ ?_
  .simp only[U,jl,n,k,b2,i,i.take,e,a3.E,a3.U,gu,bA,dr,iG,bb,a_];omega
  refine g.freeze 4 1 a a a ?_;exact g.cu be [] a (by simp[a3.E]) a a a fO
 rw[bm e];refine bg b [(8,m),(15,m),(20,m),(29,f)] a ?_ ?_
 .simp only[U,jl,n,k,b2,i,i.take,a3.E,a3.U,gu,bA,dr,kh,bb,a_];and_intros<;>first|exact e|omega
 exact se
def fD(d:Int)(b:dR)(a:Int)(e:p c6):dR×Bool:=
 if qK d b a e=f then(if fs d b.1 e=f then(b,m)else(pG d b a e,f))else(k2,m)
structure p5(Q:dR):Prop where
 bm:dQ Q.1
 b9:p3 Q.1
 cA:c Q.2.1<=4000000
 cM:c Q.2.2<=4000000
def fe.b_{b}(a:fe k b)(d:k<=1000000):p5 b:=⟨a.bm.toka.ev,a.j9,by have:=a.b9;omega,by have:=a.cM;omega⟩
def XE(i)(b)(bU)(o)(l:p5 b):Z r 66 [S i,gw b,S bU,bF.S o] [] (j4 (fD i b bU o).1 (fD i b bU o).2) []:=by
 refine Z.bG func66 rfl rfl rfl λL=>?_;have k:a9 r [(25,BK),(24,jQ),(32,sP),(37,xu),(90,BD),(91,xr)]:=.cons MR (.cons kB (.cons t32 (.cons EA (.cons MI (.cons Ey .nil)))));have ab:=l.b9;have x:(b.1,b.2.1,b.2.2)=b:=rfl;have V:fD i b bU o=if hh i b=f then(if 1<=bU/\bU<=2 then(if dP o=f then(if fs i b.1 o=f then(b,m)else(pG i b bU o,f))else(k2,m))else(k2,m))else(k2,m):=by unfold fD qK;by_cases ae:hh i b=f<;>by_cases C:1<=bU/\bU<=2<;>by_cases t:dP o=f<;>simp[ae,C,t]
 rw[V];cases ae:hh i b with
 |false=>
  rw[bm E];refine bg k [(18,f),(23,f),(28,f)] a ?_ ?_
  .simp only[U,a2.E,a2.U,bk.E,bk.U,a3.E,a3.U,aB.E,aB.U,x,ae,ab,is,bb,a_]
  exact zR
 |true=>
 rw[bs a];by_cases C:1<=bU/\bU<=2
 rotate_left
 .rw[bm C];refine bg k [(18,m),(23,f),(28,f)] a ?_ ?_
  .simp only[U,a2.E,a2.U,bk.E,bk.U,a3.E,a3.U,aB.E,aB.U,x,ae,ab,gu,bb,a_];grind
  exact zR
 rw[bs C];cases t:dP o with
 |false=>
  rw[bm E];exact bg k [(18,m),(23,m),(28,f)] a FE zR
 |true=>
 rw[bs a];have s:=tQ.1 ae;have aR:=s.tojF.h';have K:=aR.fb;have n:=W1 (r:=r) i b.1 bU o s.key l.bm K (oS t) aR.kk;cases w:fs i b.1 o with
 |true=>
  rw[w,bs a]at n;rw[bs a];refine bg k [(18,m),(23,m),(28,m)] a FE (g.aF n [] a (bg k [(42,f)] a ?_ ?_))
  .simp only[U,a2.E,a2.U,bk.E,bk.U,a3.E,a3.U,aB.E,aB.U,x,l.bm,l.cA,l.cM,gu,is,bb,a_]
  refine g.freeze 8 1 a a a ?_;exact g.cu be [] a z3 a a a fO
 |false=>
 rw[w,bm E]at n;rw[bm E];refine bg k [(18,m),(23,m),(28,m)] a FE (g.aF n [] a ?_);have F:=aR.cP (i:=i) (o:=o) (bU:=bU) (by have:=xf 1 s.cI λp J=>(s.a4 p J).1;omega) t w;have O:(ft i b.1 bU o).2.1.length=c b.1.2.1+1:=by simp[ft]
 have R:(ft i b.1 bU o).2.1.getD ((ft i b.1 bU o).2.1.length-1) (0,[])=fT (dv b.1) i o:=by rw[O];simp[ft,al]
 have N:=F.da (fT (dv b.1) i o) M;have X:=wd N.2;have H:=tr (fT (dv b.1) i o).2;have G:=F.ew;have W:=l.cA;unfold pG;generalize ft i b.1 bU o=j at *;generalize fT (dv b.1) i o=p at *;have T:((c j.2.1:Int)-1).toNat=c j.2.1-1:=y;have A:j.2.1.getD ((c j.2.1:Int)-1).toNat bk.I=p:=by rw[T];exact R
 refine bg k [(42,m)] a ?_ ?_
 .simp only[U,A,a2.E,a2.U,bk.E,bk.U,a3.E,a3.U,aB.E,aB.U,cy.E,cy.U,x,l.bm,l.cA,l.cM,a8,gu,is,bb,a_];omega
 rw[A];simp only[cy.E];generalize gz p.2=d at *;refine g.aL 4 (λe=>e<=c d) (λe:Nat=>[(5,aH 0 0),(8,aH 1 0),(10,aH 2 0),(12,aH 3 0),(13,aB.S d),(14,S e)])
  (λe=>[gn b,.cells 30 mb,j1 j,gn (j,(d.take e).foldl eZ b.2.1,b.2.2)]) (λe=>c d-e) 0 a ?_ a ?_ a y ?_
 .simp
 .exact z3
 intro e Q;by_cases u:e<c d
 .have D:d.getD e aB.I=d.getD e 0:=rfl;have z:=yg eZ b.2.1 u;have I:=qw b.2.1 (d.take e);rw[List.length_take]at I;generalize(d.take e).foldl eZ b.2.1=jg at *;have B:=aB.E jg;refine bg k [(58,f)] a ?_ (g.aB (e+1) a ?_ ?_ u y)
  .simp[-al,D,u,B,aB.U,a8];omega
  .simp
  rw[z];simp[-al,D,B]
 obtain rfl:e=c d:=y;rw[c8];refine bg k [(58,m)] a E (g.aC ?_);exact cO k a v zR
def Ja(d)(b:n1 d)(A)(s:A<=c d):Z r 148 [ax (iz d),S A] [] (S (gC (d.take A))) []:=by
 refine Z.K func148 rfl λt=>?_;have x:=b.cA;refine a0 a v (g.loop (λe=>e<=A) (λe:Nat=>[(0,ax (iz (d.drop e))),(1,S ((A:Int)-e)),(5,S (gC (d.take e)))]) (λ_=>[]) (λe=>A-e) 0 y (.cons a (eG a (by simp[gC]))) a ?_);intro e n;by_cases l:e<A
 .have i:=Mx (d:=d) (e:=e) y;have u:=v8 b.aN b.cA e;have p:=v8 b.aN b.cA (e+1);have w:=b.aN _ (mG (e:=e) (d:=d) y (0,0));rw[In (e:=e) y]
  generalize d.getD e (0,0)=o at *;generalize k:d.drop (e+1)=j;cases j<;>(
   refine a0 a v (g.aO (tE a underlying185 a a a) a a ?_);refine a7 [(8,f),(11,f)] a ?_ ⟨e+1,l,by omega,.cons (by rw[k];rfl) (eG a ?_),a⟩
   .simp only[U,a8,bA,bb,a_];exact FD
   .simp only[U.Z,U,bb,a_];and_intros<;>omega)
 obtain rfl:e=A:=y;generalize d.drop e=j;cases j with
 |nil=>
  refine a0 a v (g.aO (rZ a underlying185 a a a) a a ?_);refine a7 [(8,m),(11,m)] a E (g.bu a a ?_);exact wz
 |cons o j=>
  refine a0 a v (g.aO (tE a underlying185 a a a) a a ?_);refine a7 [(8,f),(11,m)] a E (g.bu a a ?_);exact wz
def V6(d)(j:c d<=4000000):Z r 149 [a3.S d] [] (S (if g1 d=f then gC d else -1)) []:=by
 refine Z.K func149 rfl λk=>?_;have i:=IR (r:=r) d j;cases b2:g1 d with
 |false=>
  have b:a9 r [(99,oa)]:=.cons tS .nil;refine bg b [(5,f)] a FO (g.aw a)
 |true=>
  have e:=Ja (r:=r) d (.of b2) (c d) (bB _);rw[c8]at e;have b:a9 r [(99,oa),(147,e5 [a3.S d] (ax (iz d))),(148,e5 [ax (iz d),S (c d)] (S (gC d)))]:=.cons tS (.cons (fu i) (.cons (fu e) .nil));generalize gC d=l at *;cases d<;>(
   refine bg b [(5,m)] a ?_ (g.aw a);simp only[U,b2,a3.E,a3.U,gu,bb,a_]
   and_intros<;>rfl)
def W4(A)(d)(j:c d<=4000000):Z r 115 [qo A,a3.S d] [] (pM (kT A d)) []:=by
 refine Z.bG func115 rfl rfl rfl λu=>?_;have n:=IR (r:=r) d j;have i:=V6 (r:=r) d j;have e:a9 r [(99,oa)]:=.cons tS .nil;unfold kT;cases b2:g1 d with
 |false=>
  rw[bm E];exact bg e [(9,f),(16,f),(21,f)] a FO se
 |true=>
 have s:=n1.of b2;by_cases k:A.1<=c d
 rotate_left
 .rw[bm (by simp[k])];exact bg e [(9,m),(16,f),(21,f)] a PO se
 by_cases I:0<=A.1
 rotate_left
 .rw[bm sj];exact bg e [(9,m),(16,m),(21,f)] a O9 se
 rw[bs ⟨rfl,k,I⟩];have p:(A.1.toNat:Int)=A.1:=ro I;have l:=Ja (r:=r) d s A.1.toNat y;rw[bs b2]at i;rw[p]at l;have iw:a9 r [(99,oa),(147,e5 [a3.S d] (ax (iz d))),(148,e5 [ax (iz d),S A.1] (S (gC (d.take A.1.toNat)))),(149,e5 [a3.S d] (S (gC d)))]:=.cons tS (.cons (fu n) (.cons (fu l) (.cons (fu i) .nil)));generalize gC d=t at *;generalize gC (d.take A.1.toNat)=o at *;by_cases b:o=A.2
 .rw[bs b];cases d<;>(
   refine bg iw [(9,m),(16,m),(21,m),(23,m)] a ?_ ?_
   .simp only[U,b2,b,a3.E,a3.U,gu,bA,dr,iG,bb,a_];exact q6
   refine g.freeze 4 1 a a a ?_;exact g.cu be [] a E a a a fO)
 .rw[bm b];cases d<;>(
   refine bg iw [(9,m),(16,m),(21,m),(23,f)] a ?_ ?_
   .simp only[U,b2,a3.E,a3.U,gu,bA,dr,kh,bb,a_];and_intros<;>first|exact b|rfl|omega
   refine g.freeze 4 1 a a a ?_;exact g.cu be [] a E a a a fO)
def rB(a:Int):Bool:=decide (1<=a/\a<=2)
def TU(k):Z r 38 [S k] [] (bj (rB k)) []:=by
 refine Z.K func38 rfl λb=>?_;unfold rB;by_cases u:k=1
 .refine a7 [(5,f)] a g4 (g.aw a ?_);simp[u]
 refine a7 [(5,m)] a g4 (g.aw a ?_);simp only[U,a_];rw[o9];simp only[gW,bA];omega
abbrev Bz:bL:=dm db (λa=>bj (rB a)) λ_=>[]
def MC:bM r 38 Bz:=.bb λa _=>TU a
def JY:bx:=⟨1,8,m,TypeDesc.map 3 4,[.val (.map q)],[]⟩
def YE:dS V 92 JY:=⟨underlying92,rfl,⟨Tryz.t92,_,hE type92,rfl,rfl,rfl,rfl,⟨#[],rfl⟩,rfl⟩,λb=>absurd a b⟩
def dd:bn V ((92,JY)::eT):=bn.cons YE be
abbrev sW(a:aa):z:=cN a
abbrev jk(a:aa)(b:p Int):an:=.J (jd a b)
def Iw(s)(e d):Z r 52 [sW s,aB.S d] [jk s e] (.Q []) [jk s (e++d)]:=by
 refine Z.K func52 rfl λi=>?_;have n:=i.S 1 a;refine g.aT b7 dd a9.nil [] 100 a v (g.aL 1 (λb=>b<=c d) (λb:Nat=>[(0,sW s),(6,aB.S d),(7,S (c d)),(8,S b)]) (λb=>[jk s (e++d.take b)]) (λb=>c d-b) 0 a E a E a y ?_);intro b l;by_cases k:b<c d
 .have o:d.getD (b:Int).toNat aB.I=d.getD b 0:=dD;refine g.aT b7 dd a9.nil [(9,f)] 100 a bV (g.aO (a1.j0 a underlying92 underlying3 (j:=0) a a a a) a a ?_);refine g.aT b7 dd a9.nil [] 100 a bH (g.aB (b+1) a E ?_ k y);simp_all
 obtain rfl:b=c d:=y;rw[c8];refine g.aT b7 dd a9.nil [(9,m)] 100 a E (g.aC ?_);exact bW.dn [0] a E a a a h9
def Wr(b)(d)(k):Z r 55 [S k,ax (.O [.val b])] [jk b d] (bj (!d.contains k)) [jk b d]:=by refine Z.K func55 rfl λi=>?_;refine g.aT b7 dd a9.nil [] 100 a v ?_;refine g.aO (a1.jY a underlying92 underlying3 (λe=>Tryz.zeroValue4 e) (j:=0) a a a) a a ?_;exact g.aT b7 dd a9.nil [] 100 a v (g.aS [0] a E h9)
def Vo(b)(k):Z r 57 [fG b,ax (.O [.int .i64 k])] [] (bj (b.1==k)) []:=by refine Z.K func57 rfl λd=>?_;exact a0 a v (g.aw a)
def Cv(l)(b:c l.2<=4000000)(d:c (ea l.2)<=4000000):Z r 54 [iR l] [] (aB.S (gf l)) []:=by refine Z.K func54 rfl λe=>?_;refine a0 a v ?_;refine g.aF (Xe l b d) [] a ?_;exact a0 a v (g.aw a)
def o1(g:aa)(i:Nat)(b:Array MapEntry)(e:Nat):aa->(Nat->Option Obj)->Prop:=λj a=>j=g/\∀d,a d=if d=i then h (.map b e)else q
def iW(a:MapEntry):Int:=match a.key with|.int _ b=>b|_=>0
structure o2(I:aa)(d:p Int)(ba:Nat)(T:Array MapEntry)(s:Nat):Prop where
 b9:I=.map (h ba)
 a9:MapKept.Stamped T s
 cy:∀ai∈T.toList,ai.key=.int .i64 (iW ai)/\a8 .i64 (iW ai)/\ai.val=.bool f
 mem:∀k,k∈d↔k∈T.toList.map iW
def jd.kn{I}{d}(t:jd I d ab lb):∃b:{b:Nat×Array MapEntry×Nat // o2 I d b.1 b.2.1 b.2.2},o1 I b.1.1 b.1.2.1 b.1.2.2 ab lb:=by
 obtain⟨k,x,g,p,l,w,u,v,o⟩:=t;have j:∀a∈g.toList,a.key=.int .i64 (iW a)/\a8 .i64 (iW a)/\a.val=.bool f:=λa e=>by
  obtain⟨n,k1,r,s⟩:=v a e;have:iW a=n:=by simp[iW,k1]
  rw[this];exact⟨k1,s,r⟩
 refine⟨⟨(x,g,p),l,u,j,λn=>?_⟩,k,w⟩;rw[o,ho];constructor
 .rintro⟨a,e,i⟩;exact⟨a,e,by simp[iW,i]⟩
 rintro⟨a,e,rfl⟩;exact⟨a,e,(j a e).1⟩
def o2.cS{I}{d}{ba}{T}{s}(e:o2 I d ba T s)(g:o1 I ba T s ab lb):jd I d ab lb:=by
 refine⟨g.1,ba,T,s,e.b9,g.2,e.a9,λb a=>⟨_,(e.cy b a).1,(e.cy b a).2.2,(e.cy b a).2.1⟩,λj=>?_⟩;rw[e.mem,ho];constructor
 .rintro⟨b,a,rfl⟩;exact⟨b,a,(e.cy b a).1⟩
 rintro⟨b,a,i⟩;exact⟨b,a,by simp[iW,i]⟩
def ut(a:Array MapEntry)(pre:p Int)(b:Array Nat):Prop:=pre.Nodup/\(∀e∈pre,e∈a.toList.map iW)/\∀d∈a.toList,d.born∈b↔iW d∈pre
section
variable {I:aa}{d:p Int}{ba s:Nat}{T:Array MapEntry}(bd:o2 I d ba T s)
include bd
def o2.ax:(T.toList.map iW).Nodup:=by
 have b:T.toList.map (·.key)=(T.toList.map iW).map (Value.int .i64):=by rw[List.map_map];exact rv λa d=>(bd.cy a d).1
 have:=bd.a9.2.2;rw[b]at this;rw[List.Nodup,rp]at this;exact this.imp λb a=>b (eM (Value.int .i64) a)
def o2.step{pre}{dA}(j:ut T pre dA){b}(g:b∈T.toList)(k:b.born∉dA):ut T (pre++[iW b]) (dA.push b.born)/\iW b∉pre:=by
 have l:iW b∉pre:=λn=>k ((j.2.2 b g).2 n);refine⟨⟨by grind[ut],λo e=>?_,λi a=>?_⟩,l⟩
 .rcases fx.1 e with e|e
  .exact j.2.1 o e
  rw[gH.1 e];exact List.mem_map_of_mem g
 simp only[Array.mem_push,fx,gH,j.2.2 i a];refine or_congr_right ⟨λd=>?_,λd=>?_⟩
 .rw[DA bd.a9.2.1 a g d]
 rw[DA bd.ax a g d]
def o2.over{pre}{dA}(g:ut T pre dA)(j:∀e∈T.toList,e.born∈dA):pre.Nodup/\∀b,b∈pre↔b∈d:=by refine⟨g.1,λb=>⟨λa=>(bd.mem b).2 (g.2.1 b a),λa=>?_⟩⟩;obtain⟨e,i,rfl⟩:=ho.1 ((bd.mem b).1 a);exact(g.2.2 e i).1 (j e i)
end
def yc{b}:∀a,a<1->(0::b)[a]?=h a:=λa d=>by simp_all
abbrev xx(a:aa):N:=.fn (.func 172) [] [.O [.val a]]
def Vx(I):Z r 126 [sW I] [] (ax (xx I)) []:=by refine Z.K func126 rfl λb=>?_;refine g.aT b7 dd a9.nil [(1000001,f)] 100 a v ?_;refine g.freeze 1 0 a a a ?_;exact g.aT b7 dd a9.nil [] 100 a v (g.aw a)
set_option maxRecDepth 20000 in
def Vy{ad:Type}{I}{d}{ba}{T}{s}(l:o2 I d ba T s){i}{e}{w}(u x:ad->an)(y:p Int->ad->Prop)(t)(R:y [] t)(aE:∀k,u k≠.bo/\x k≠.bo)(j:∀pre b k M,b∉pre->pre.Nodup->(∀X∈pre++[b],X∈d)->y pre k->iD (ι:={n:ad // y (pre++[b]) n}) r 3 [S b] [.J (o1 I ba T s),u k,x k,.loop i e w,.J M] f (λn=>[.J (o1 I ba T s),u n.1,x n.1,.loop i e w,.J M])):
  bl (ι:={C:ad×p Int×Array Nat // (C.2.1.Nodup/\∀K,K∈C.2.1↔K∈d)/\y C.2.1 C.1}) r 172 [.q (.aq (.aR 3)),ax (.O [.val I])] [.J (o1 I ba T s),u t,x t,.loop i e w] (λ_=>.Q []) (λA=>[.J (o1 I ba T s),u A.1.1,x A.1.1,.loop i e w,.J (k7 ba s A.1.2.2)]):=by
 obtain rfl:=l.b9;have F:uq (o1 (.map (h ba)) ba T s) ba T s:=λY U V=>by rw[V.2];simp
 refine bl.bR func172 rfl rfl rfl (g.aW ?_);refine g.aT b7 dd a9.nil [] 100 a v (g.range (qL:=0) (ba:=ba) a a a a underlying92 (bY.kq a) a F ?_);refine g.aT b7 dd a9.nil [] 100 a v ?_;show b0 r _ (.loop _) _ _ _;refine b0.loop (br:=ad×p Int×Array Nat) (λb=>ut T b.2.1 b.2.2/\y b.2.1 b.1) (λ_=>[(0,.q (.aq (.aR 3))),(5,.q (.aq (.aR 4)))]) (λb=>[.J (o1 (.map (h ba)) ba T s),u b.1,x b.1,.loop i e w,.J (k7 ba s b.2.2)]) (λb=>c T.toList-c b.2.1) (t,[],#[]) ⟨⟨List.nodup_nil,by simp,by simp⟩,R⟩ (eG a E) a ?_;rintro⟨k,pre,dA⟩ ⟨J,O⟩;refine g.aW ?_;refine g.aT b7 dd a9.nil [] 100 a v (g.next (qL:=0) (kq:=4) (ba:=ba) (s:=s) (dA:=dA) (T:=T) a a a a a a a a F l.a9 (λai o=>⟨by rw[(l.cy ai o).1];rfl,by rw[(l.cy ai o).2.2];rfl⟩) λA=>?_);cases A with
 |over D=>
  refine g.aT b7 dd a9.nil [(7,m)] 100 a E (g.fI a a ?_);exact⟨⟨(k,pre,dA),l.over J D,O⟩,.inr a,a,qO (bX:=.J _) E (qO (aE k).1 (qO (aE k).2 a)),[],.Q [],[],a,a,a,v⟩
 |aq ai o H=>
  refine g.aT b7 dd a9.nil [(7,f)] 100 a E ?_;obtain⟨k1,N,z⟩:=l.cy ai o;obtain⟨B,G⟩:=l.step J o H;refine g.entry (qL:=0) (kq:=4) (ba:=ba) (s:=s) (dA:=dA) (T:=T) (ai:=ai) (X:=.Q [.aq (.c (.int .i64 (iW ai))),.aq .any]) a a a a a a a F l.a9 o (λW=>⟨[ai.key,ai.val],a,?_,by rw[z];rfl,v⟩) ?_
  .rw[k1];exact Rd.int N
  refine g.aT b7 dd a9.nil [] 100 a v (g.yield (j pre (iW ai) k _ G J.1 (λX Q=>(l.mem X).2 (B.2.1 X Q)) O) a a a a a a λn=>?_);refine g.aT b7 dd a9.nil [(13,m)] 100 a E ⟨(n.1,pre++[iW ai],dA.push ai.born),⟨B,n.2⟩,?_,eG a E,a⟩;have:=yJ _ _ B.1 B.2.1;simp at this⊢;omega
abbrev Av(d:p Int):Type:={b:p Int // b.Nodup/\∀a,a∈b↔a∈d}
set_option maxRecDepth 20000 in
def TD(I)(d)(K:c d<=4000000):
  bl (ι:=Av d) r 210 [ax (.S f 0 0 λ_=>[]),ax (xx I)] [jk I d] (λb=>cD 1 (.S (c b.1) 1 0 (c b.1))) (λb=>[jk I d,jj (c b.1) b.1]):=by
 refine bl.e6 func210 rfl rfl rfl λJ=>?_;refine de.seq (b0.bA (g.aW ?_));refine a0 a v (de.seq (de.seq (b0.bA (g.aW ?_))));refine g.gD 0 (λb:{b:Nat×Array MapEntry×Nat // o2 I d b.1 b.2.1 b.2.2}=>o1 I b.1.1 b.1.2.1 b.1.2.2) a (λB e i=>jd.kn i) ?_;rintro⟨⟨N,x,E⟩,b⟩;refine g.ek 1 0 3 1 (aB.fn []) a a ?_;refine a0 a v (de.block ?_);refine de.rangeFunc (pb:=e7 [.O [.val I]]) (bY.callee a) (Vy (ad:=p Int) b (λo=>.cells 28 [.R 2 (.S (c o) 1 0 (c o))]) (λo=>jj (c o) o) (λpre o=>o=pre) [] a (λo=>⟨by simp,by simp⟩) ?_) (λn=>⟨a,by simp⟩) λn=>⟨.normal,a,?_⟩
 .rintro pre l o t k A s rfl;have F:c o+1<=4000000:=by have:=yJ (o++[l]) d M s;simp at this;omega
  refine iD.intro (w:=q) a a a a (g.aW ?_);refine a0 a v ⟨a,a,g.aW ?_⟩;refine a0 a (by simp[a8,show ef.bytes=8 from a];omega) ?_;have j:=aB.a0 o l;refine⟨a,a,⟨o++[l],a⟩,jV a ?_⟩;simp only[U.Z,U,dk,gG,bb,a_];and_intros<;>first|exact j|rfl|exact bu.same
 show de r _ _ _ _ _;obtain⟨⟨o,pre,z⟩,u,y⟩:=n;obtain rfl:o=pre:=y;refine b0.bA (g.aW ?_);refine g.gD (ι:=Unit) 0 (λ_=>jd I d) a (λB e i=>⟨(),b.cS i⟩) λ_=>?_;refine a0 a v (g.bS (λj C D b=>⟨⟨o,u⟩,b⟩) (g.aS [0,2] a ?_ yc));simp
def T6(I)(d)(e:c d<=4000000):
  bl (ι:=Av d) r 171 [ax (xx I)] [jk I d] (λb=>cD 1 (.S (c b.1) 1 0 (c b.1))) (λb=>[jk I d,jj (c b.1) b.1]):=by refine bl.cw func171 rfl rfl rfl λi=>?_;refine a0 a v (g.b3 (TD I d e) [0] a a a a E a a a bp a bp a λb=>?_);refine a0 a v (g.bM b (g.aS [0,1] a ?_ yc));simp
def aco{d aN}(k:aN.Pairwise (· < ·))(n:∀g,g∈aN↔g∈d)(a:Av d):j3 a.1=aN:=by
 have i:(j3 a.1).Pairwise λb e=>b<=e:=(List.pairwise_mergeSort (λb e o i j=>by grind) (λb e=>by grind) a.1).imp λl=>by grind
 have j:(j3 a.1).Nodup:=(zk _).nodup_iff.2 a.2.1;refine A5 ?_ k λg=>by rw[(zk _).mem_iff,a.2.2,n]
 exact(i.and j).imp λl=>by omega
def Xm(I)(b aN:p Int)(n:c b<=4000000)(o:aN.Pairwise (· < ·))(l:∀e,e∈aN↔e∈b):
  Z r 125 [ax (xx I)] [jk I b] (cD 1 (.S (c aN) 1 0 (c aN))) [jk I b,jj (c aN) aN]:=by
 refine Z.K func125 rfl λt=>?_;refine a0 a v (g.a' (T6 I b n) [0] a bp λd=>?_);have k:=aco o l d;have u:=yJ d.1 b d.2.1 λe s=>(d.2.2 e).1 s;have j:=Cz (r:=r) d.1 y;have i:c d.1=c aN:=by rw[<-k,qX]
 rw[k,i]at j;rw[i];refine a0 a v (g.aF j [1] a (a0 a v (g.aS [0,1] a ?_ yc)));simp
def V1(I)(d aN)(i:c d<=4000000)(e:aN.Pairwise (· < ·))(j:∀b,b∈aN↔b∈d):
  Z r 84 [sW I] [jk I d] (aB.S aN) [jk I d]:=by
 have k:Z r 84 [sW I] [jk I d] (cD 1 (.S (c aN) 1 0 (c aN))) ([jk I d]++[jj (c aN) aN]):=by refine Z.K func84 rfl λl=>?_;refine g.aT b7 dd a9.nil [] 100 a v (g.aF (Vx I) [] a (g.aT b7 dd a9.nil [] 100 a v (g.aF (Xm I d aN i e j) [0] a (g.aT b7 dd a9.nil [] 100 a v (g.aS [0,1] a ?_ yc)))));simp
 exact Z.bQ k a E a (bB _)
abbrev jN(b:Nat)(a:p Int):an:=.h 3 1 b (aB.fn a)
end
section
variable {r:aj V}
abbrev RG:={a:p Int // c a<=5}
def Vu(A)(e:Nat->Int)(w:Bytes e)(i:Nat)(o:i<=500000)(k:A<=1048576):
  bl (ι:=RG) r 31 [aH 0 0] [ei A e i] (λx=>aB.S x.1) (λ_=>[ei A e (i+5:Nat)]):=by
 refine bl.cw func31 rfl rfl rfl λF=>?_;refine a7 [(1000002,f)] a v (g.bO 3 3 1 a a ?_);refine a0 a v (g.aL 2 (λb:Nat×p Int=>1<=b.1/\b.1<=6/\c b.2+1<=b.1) (λb=>[(0,aH 0 0),(3,.q (.aq (.r 1 1 (c b.2) (aB.fn b.2)))),(4,S b.1)]) (λb=>[ei A e (i+(b.1-1):Nat),.r 3 1 (c b.2) (aB.fn b.2)]) (λb=>6-b.1) (1,[]) a E a E a ⟨by decide,by decide,by decide⟩ ?_);rintro⟨d,j⟩ ⟨t,n,u⟩;simp only at t n u;by_cases D:d<=5
 .refine a7 [(7,f)] a bw (g.a' (hP A e w (i+(d-1)) 2 y k y) [0] a bp ?_);rintro⟨z,B,C⟩;by_cases l:z=0
  .have s:=aB.a0 j (d:Int);refine a7 [(12,f)] a ?_ (g.aB (d+1,j++[(d:Int)]) a ?_ ?_ ⟨by omega,by omega,by grind⟩ y)
   .simp only[U,l,a8,show ef.bytes=8 from a,gh,bb,a_];exact fv
   .exact QO
   exact QO
  refine a7 [(12,m)] a bH (g.aB (d+1,j) a E ?_ ⟨by omega,by omega,by exact bw⟩ y);exact bw
 obtain rfl:d=6:=y;refine a7 [(7,m)] a E (g.aC ?_);refine a0 a v (g.bM ⟨j,by omega⟩ (g.aS [0] a ?_ np));simp
def zH:p bD:=[[122,122],[98,46],[104,101,108,108,111,46,46,46]]
def aeR:bu 3 (λa=>([[.V [122,122]],[.V [98,46]],[.V [104,101,108,108,111,46,46,46]]]:p (p N)).getD a []) (bS.fn zH):=by intro a b;have:a=0∨a=1∨a=2:=y;rcases this with rfl|rfl|rfl<;>rfl
set_option maxRecDepth 20000 in
def VO(A)(b:Nat->Int)(i:Bytes b)(d:Nat)(n:d<=500000)(e:A<=1048576):
  bl (ι:=dW) r 30 [aH 0 0] [ei A b d] (λo=>eF o) (λ_=>[ei A b (d+4:Nat)]):=by
 refine bl.bG be func30 rfl rfl rfl λs=>?_;refine a0 a v (g.a' (hP A b i d 5 y e y) [0] a bp ?_);rintro⟨j,_⟩;refine a0 a v (g.a' (hP A b i (d+1) 5 y e y) [0] a bp ?_);rintro⟨l,_⟩;refine a0 a v (g.a' (hP A b i (d+1+1) 3 y e y) [0] a bp ?_);rintro⟨k,_⟩;refine a0 a v (g.b3 (Wt A b i (d+1+1+1) y e zH cc).tocH [0] a a a a ?_ a a a bp a bp a ?_)
 .simp only[U.Z,U,bb,a_];exact⟨a,aeR⟩
 rintro -;generalize zH.getD (qR A b (d+1+1+1) (c zH)).toNat []=p;refine a0 a v (g.bj (j,l,k,p) [0] ?_ g_);simp
end
structure p4(Q:dR):Prop extends n4 Q.1 where
 fN:c Q.2.1<=4000000
 fL:c Q.2.2<=4000000
def Gm{d}(a:e<c d):c (ea (d.getD e (0,[])).2)<=c (hp d):=by have:=Gl d (e+1);grind[AV]
def adj(i)(a):hh i a=(h0 i a.1&&(aC (c a.1.2.1)).all (λb=>!(gf (a.1.2.1.getD b (0,[]))).any λd=>!a.2.1.contains d)&&(aC (c a.2.2)).all (nD a.1.1 a.2.2)):=by rw[hh,aaG];cases h0 i a.1<;>simp
def XB(i)(j)(s:p4 j):Z (aj.aV V) 26 [S i,gw j] [] (bj (hh i j)) []:=by
 refine Z.K func26 rfl λT=>?_;have l:a9 (aj.aV V) [(51,xC)]:=.cons EG .nil;have X:=a2.E j.1.1;have ab:=bk.E j.1.2.1;have cM:=a3.E j.1.2.2;have ba:=s.ton4;rw[adj];cases b2:h0 i j.1
 .exact g.aT b7 dd l [(14,f)] 100 a Rh (g.aw a)
 refine g.aT b7 dd l [(14,m)] 100 a Rh ?_;rw[fr];refine g.h4 a a a λp=>?_;refine g.aT b7 dd l [] 100 a v (g.aF (Iw p [] j.2.1) [1] a ?_);rw[qb];refine g.aT b7 dd l [(1000005,f)] 100 a v (g.freeze 5 2 a a a ?_);refine g.aT b7 dd l [] 100 a v (g.aL 3 (λe=>e<=c j.1.2.1/\∀n,n<e->(!(gf (j.1.2.1.getD n (0,[]))).any λk=>!j.2.1.contains k)=f) (λe:Nat=>[(0,S i),(3,aH 0 0),(5,ax (.O [.val p])),(22,bk.S j.1.2.1),(23,S (c j.1.2.1)),(24,S e)]) (λ_=>[gn j,jk p j.2.1,.x]) (λe=>c j.1.2.1-e) 0 a E a E a ⟨by omega,by omega⟩ ?_);have H:=s.fa;rintro e ⟨w,r⟩;by_cases u:e<c j.1.2.1
 .have b:j.1.2.1.getD (e:Int).toNat bk.I=j.1.2.1.getD e (0,[]):=M;have B:=s.dX _ (ou (I:=(0,[])) u);have O:=Gm u;have J:=s.ey;have L:=kL (R:=λn=>!(gf (j.1.2.1.getD n (0,[]))).any λk=>!j.2.1.contains k) u;have A:=iJ (R:=λn=>!(gf (j.1.2.1.getD n (0,[]))).any λk=>!j.2.1.contains k) (e:=e);generalize j.1.2.1.getD e (0,[])=o at *;refine g.aT b7 dd l [(25,f)] 100 a bV ?_;rw[b];refine g.aF (Cv o B.1 y) [] a (g.aT b7 dd l [] 100 a v (g.aF (UP (gf o) 55 [.val p] (jd p j.2.1) (λk=>!j.2.1.contains k) λk _=>Wr p j.2.1 k) [1] a ?_));cases G:(gf o).any λk=>!j.2.1.contains k with
  |true=>
   refine g.aT b7 dd l [] 100 a v (g.aX (bW.zero a ?_));exact bH
  |false=>
   refine g.aT b7 dd l [] 100 a ?_ (g.aB (e+1) a E E ⟨u,A r M⟩ y);exact bH
 obtain rfl:e=c j.1.2.1:=y;rw[fN.2 r,fr];refine g.aT b7 dd l [(25,m)] 100 a E (g.aC ?_);refine g.aT b7 dd l [] 100 a v ?_;have D:=s.fL;refine g.aL 3 (λe=>e<=c j.2.2/\∀n,n<e->nD j.1.1 j.2.2 n=f) (λe:Nat=>[(0,S i),(3,aH 0 0),(34,aB.S j.2.2),(35,S (c j.2.2)),(36,S e)]) (λ_=>[gn j,jk p j.2.1,.x]) (λe=>c j.2.2-e) 0 a E a E a ⟨by omega,by omega⟩ ?_;rintro e ⟨w,r⟩;by_cases u:e<c j.2.2
 .have b:j.2.2.getD (e:Int).toNat aB.I=j.2.2.getD e 0:=M;have C:j.2.2.getD (e-1) aB.I=j.2.2.getD (e-1) 0:=rfl;have z:nD j.1.1 j.2.2 e=((j.1.1.any λR=>R.1==j.2.2.getD e 0)&&kj (λo=>o) 0 j.2.2 e):=rfl;have F:=qf (ae:=λo:Int=>o) (I:=0) (d:=j.2.2) (e:=e);generalize j.2.2.getD e 0=k at *;generalize j.2.2.getD (e-1) 0=x at *;have iw:a9 (aj.aV V) [(56,e5 [a2.S j.1.1,ax (.fn (.func 57) [] [.O [.int .i64 k]])] (bj (j.1.1.any λR=>R.1==k)))]:=.cons (fu (UQ j.1.1 57 [.int .i64 k] (λR=>R.1==k) λR _=>Vo R k)) .nil;refine g.aT b7 dd l [(37,f),(1000014,f)] 100 a bV ?_;rw[b];refine g.freeze 9 3 a a a ?_;have fin:j.1.1.any (λR=>R.1==k)=f->kj (λo=>o) 0 j.2.2 e=f->nD j.1.1 j.2.2 e=f:=λG K=>by grind
  by_cases N:e=0
  .subst N;cases t:j.1.1.any (λR=>R.1==k)with
   |true=>
    refine g.aT b7 dd iw [(43,m),(60,m)] 100 a ?_ (g.aB 1 a E E ⟨u,iJ r (fin t a)⟩ y);simp[a8,t,c1.S]
   |false=>
    refine g.aT b7 dd iw [(43,m),(60,f)] 100 a bH (g.aX (bW.zero a ?_));exact j8
  by_cases Q:x<k
  rotate_left
  .refine g.aT b7 dd iw [(43,f),(51,f),(60,f)] 100 a ?_ (g.aX (bW.zero a ?_))
   .simp[-al,C,a8];omega
   exact j8
  cases t:j.1.1.any (λR=>R.1==k)with
  |true=>
   refine g.aT b7 dd iw [(43,f),(51,m),(60,m)] 100 a ?_ (g.aB (e+1) a E E ⟨u,iJ r (fin t M)⟩ y);exact Om
  |false=>
   refine g.aT b7 dd iw [(43,f),(51,m),(60,f)] 100 a Om (g.aX (bW.zero a ?_));exact j8
 obtain rfl:e=c j.2.2:=y;rw[fN.2 r];refine g.aT b7 dd l [(37,m)] 100 a E (g.aC ?_);exact g.aT b7 dd l [] 100 a v (g.aw a)
abbrev xD:bL:=er db (Ay CH) (λb a=>bj (hh b a)) λ_ a=>[p4 a]
def EH:bM (aj.aV V) 26 xD:=.bn λb d a=>XB b d a
section
variable {r:aj V}
inductive RF (ι:Type)
 |cA
 |iB (bd:ι)
 |jg (bd:ι)
 |done (bd:ι) (ab:aa)
abbrev D2{k1}(b:Nat)(a:Nat->Int)(e:Int)(g:Bool):RF (F0 k1)->an
 |.cA=>match g with
  |false=>ei b a e
  |true=>ei b a (e+1)
 |.iB d|.jg d|.done d _=>ei b a d.1.2
section
variable {j:Nat->Int}{bC:Int}{k1:Nat}{Q:dR}{R:F0 k1->Bool}
end
end
abbrev aeP(a:fo):an:=.cells 35 (nO a)
def aeU(a):hj a=(hh a.1 a.2.1&&decide (c a.2.2.2.1=2)&&decide (c a.2.2.2.2=2)&&(aC 2).all (pP a)):=by unfold hj;cases hh a.1 a.2.1<;>cases decide (c a.2.2.2.1=2)<;>cases decide (c a.2.2.2.2=2)<;>simp
def Jg(b)(A:p4 b.2.1):Z (aj.aV V) 9 [fZ b] [] (bj (hj b)) []:=by
 refine Z.K func9 rfl λD=>?_;have j:a9 (aj.aV V) [(26,xD)]:=.cons EH .nil;have C:=a2.E b.2.1.1.1;have k:=bk.E b.2.1.1.2.1;have i:=a3.E b.2.1.1.2.2;have d:=aB.E b.2.1.2.1;have ae:=aB.E b.2.1.2.2;rw[aeU];cases b2:hh b.1 b.2.1
 .exact g.aT b7 dd j [(11,f),(17,f),(22,f)] 100 a (by simp[b2,C,k,i,d,ae,a2.U,bk.U,a3.U,aB.U,A]) (g.aw a)
 by_cases p:c b.2.2.2.1=2
 rotate_left
 .exact g.aT b7 dd j [(11,m),(17,f),(22,f)] 100 a Fw (g.aw a (by simp[lG p]))
 by_cases o:c b.2.2.2.2=2
 rotate_left
 .exact g.aT b7 dd j [(11,m),(17,m),(22,f)] 100 a Fw (g.aw a (by simp[lG o]))
 refine g.aT b7 dd j [(11,m),(17,m),(22,m)] 100 a Fw ?_;rw[fq p,fq o,fr,fr,fr];refine g.aL 1 (λe=>e<=2/\∀n,n<e->pP b n=f) (λe:Nat=>[(1,aH 0 0),(24,a3.S b.2.2.2.1),(25,S (c b.2.2.2.1)),(26,S e)]) (λ_=>[aeP b]) (λe=>2-e) 0 a E a E a ⟨by omega,by omega⟩ ?_;rintro e ⟨z,l⟩;by_cases u:e<2
 .have I:b.2.2.2.1.getD e a3.I=oz b e:=rfl;have s:b.2.2.2.2.getD e aB.I=oo b e:=rfl;have B:pP b e=(decide (0<=(oz b e).1/\(oz b e).1<=9)&&decide (0<=(oz b e).2)&&decide (0<=oo b e/\oo b e<=2)):=rfl;by_cases r:0<=(oz b e).1
  rotate_left
  .refine g.aT b7 dd j [(27,f),(34,f),(39,f),(44,f),(52,f),(59,f)] 100 a FB (g.aX (bW.zero a ?_));exact j8
  by_cases t:(oz b e).1<=9
  rotate_left
  .refine g.aT b7 dd j [(27,f),(34,m),(39,f),(44,f),(52,f),(59,f)] 100 a FB (g.aX (bW.zero a ?_));exact j8
  by_cases w:0<=(oz b e).2
  rotate_left
  .refine g.aT b7 dd j [(27,f),(34,m),(39,m),(44,f),(52,f),(59,f)] 100 a FB (g.aX (bW.zero a ?_));exact j8
  by_cases x:0<=oo b e
  rotate_left
  .refine g.aT b7 dd j [(27,f),(34,m),(39,m),(44,m),(52,f),(59,f)] 100 a Q3 (g.aX (bW.zero a ?_));exact j8
  by_cases F:oo b e<=2
  rotate_left
  .refine g.aT b7 dd j [(27,f),(34,m),(39,m),(44,m),(52,m),(59,f)] 100 a Q3 (g.aX (bW.zero a ?_));exact j8
  refine g.aT b7 dd j [(27,f),(34,m),(39,m),(44,m),(52,m),(59,m)] 100 a ?_ (g.aB (e+1) a E E ⟨u,iJ l M⟩ y);simp[-al,I,s,a8];omega
 obtain rfl:e=2:=y;rw[fN.2 l];refine g.aT b7 dd j [(27,m)] 100 a bV (g.aC ?_);exact g.aT b7 dd j [] 100 a v (g.aw a)
section
variable {r:aj V}[r.cb]
abbrev gF:=Int×Int×p c6×dW×p Int
abbrev Ch(a:gF):p O:=[.c (.int .i64 a.1),.c (.int .i64 a.2.1),cL bF a.2.2.1,.c (.int .i64 a.2.2.2.1.1),.c (.int .i64 a.2.2.2.1.2.1),.c (.int .i64 a.2.2.2.1.2.2.1),.c (.V a.2.2.2.1.2.2.2),cL aB a.2.2.2.2]
abbrev lQ(a:gF):z:=.q (.agg (Ch a))
abbrev afb:p O:=[.c (.int .i64 0),.c (.int .i64 0),cG,.c (.int .i64 0),.c (.int .i64 0),.c (.int .i64 0),.c (.V []),cG]
abbrev afc:an:=.cells 38 afb
abbrev nQ:dW:=(0,0,0,[])
structure Aj(i:Nat)(bd:gF×Nat):Prop where
 dZ:c bd.1.2.2.1<=7
 kz:c bd.1.2.2.2.2<=5
 ht:i<=bd.2
 gk:bd.2<=i+500
set_option maxRecDepth 20000 in
def IL(A)(b:Nat->Int)(j:Bytes b)(i)(w:i<=40000)(e:A<=1048576):
  bl (ι:={l:gF×Nat // Aj i l}) r 12 [aH 0 0] [ei A b i] (λl=>lQ l.1.1) (λl=>[ei A b l.1.2]):=by
 refine bl.bG be func12 rfl rfl rfl λS=>?_;refine a0 a v (g.a' (hP A b j i 9 y e y) [0] a bp ?_);rintro⟨d,D,F⟩;by_cases T:d<=3
 .apply g.cj [(0,aH 0 0),(2,aH 1 0)] [ei A b (i+1:Nat),afc]
  .intro dy;have:d=0∨d=1∨d=2∨d=3:=y;rcases this with rfl|rfl|rfl|rfl
   .exact a7 [(6,f),(1000006,f)] a E kE
   .exact a7 [(6,m),(7,f),(1000006,f)] a E kE
   .exact a7 [(6,m),(7,m),(8,f),(1000006,f)] a E kE
   exact a7 [(6,m),(7,m),(8,m),(9,f),(1000006,f)] a E kE
  refine a0 a v (g.a' (hP A b j (i+1) 2 y e y) [0] a bp ?_);rintro⟨k,n,o⟩;refine a0 a uc (g.a' (XJ A b j (i+1+1) y e) [0] a bp ?_);rintro⟨C,t,K,k1,u,J,z,R⟩;simp only;refine a0 a v (g.bj ⟨((1,1+k,C,nQ,[]),k1),J,by simp,by grind,by grind⟩ [0] ?_ g_);simp
 by_cases M:d=4
 .subst M;refine a7 [(6,m),(7,m),(8,m),(9,m),(17,f)] a E (g.a' (hP A b j (i+1) 4 y e y) [0] a bp ?_);rintro⟨k,n,o⟩;refine a0 a v (g.bj ⟨((2,k,[],nQ,[]),i+1+1),by simp,by simp,by grind,by grind⟩ [0] ?_ g_);simp
 by_cases Q:d=5
 .subst Q;refine a7 [(6,m),(7,m),(8,m),(9,m),(17,m),(22,f)] a E (g.a' (hP A b j (i+1) 2 y e y) [0] a bp ?_);rintro⟨k,n,o⟩;by_cases s:k=0
  .refine a7 [(25,f)] a (by simp[s]) (g.bj ⟨((3,0,[],nQ,[]),i+1+1),by simp,by simp,by grind,by grind⟩ [0] ?_ g_);simp
  refine a7 [(25,m)] a (by simp[s]) (g.a' (VO A b j (i+1+1) y e) [0] a bp ?_);intro x;refine a0 a v (g.bj ⟨((3,0,[],x,[]),i+1+1+4),by simp,by simp,by grind,by grind⟩ [0] ?_ g_);simp
 by_cases I:d=6
 .subst I;refine a7 [(6,m),(7,m),(8,m),(9,m),(17,m),(22,m),(31,f)] a E (g.a' (Vu A b j (i+1) y e) [0] a bp ?_);rintro⟨da,B⟩;refine a0 a v (g.bj ⟨((4,0,[],nQ,da),i+1+5),by simp,B,by grind,by grind⟩ [0] ?_ g_);simp
 by_cases O:d=7
 .subst O;refine a7 [(6,m),(7,m),(8,m),(9,m),(17,m),(22,m),(31,m),(36,f)] a E (g.bj ⟨((5,0,[],nQ,[]),i+1),by simp,by simp,by grind,by grind⟩ [0] ?_ g_);simp
 obtain rfl:d=8:=y;refine a7 [(6,m),(7,m),(8,m),(9,m),(17,m),(22,m),(31,m),(36,m)] a E (g.a' (hP A b j (i+1) 8 y e y) [0] a bp ?_);rintro⟨k,n,o⟩;refine a0 a v (g.a' (hP A b j (i+1+1) 4 y e y) [0] a bp ?_);rintro⟨p,N,nM⟩;refine a0 a v (g.bj ⟨((k,p,[],nQ,[]),i+1+1+1),by simp,by simp,by grind,by grind⟩ [0] ?_ g_);simp
abbrev gT(d:Int)(e:dR)(a:dW)(b:Nat):p O:=.c (.int .i64 d)::(v_ e++[.c (.int .i64 a.1),.c (.int .i64 a.2.1),.c (.int .i64 a.2.2.1),.c (.V a.2.2.2),.R b (.S 2 2 0 2),.R (b+1) (.S 2 1 0 2)])
abbrev ln(da:p (Int×Int))(a:p Int):p an:=[.h 59 2 2 (a3.fn da),.h 3 1 2 (aB.fn a)]
abbrev Dc:p (Int×Int):=[(0,0),(0,0)]
abbrev CJ:p Int:=[0,0]
omit [r.cb]in
def X0(i)(b2:cF i=f):Z r 27 [S i] [] (.Q [.agg (gT i k2 nQ 0),.aq (.c (.bool f))]) (ln Dc CJ):=by
 refine Z.bp be func27 rfl rfl rfl λk=>?_;have b:a9 r [(58,sR)]:=.cons wb .nil;refine a' b [(7,m),(1000003,f)] a me (g.region ?_);refine qT b [] 3 a v (g.gX be a a a a a a ?_);refine g.gX be a a a a a a ?_;refine ca b a v (g.bg [.cells 35 (gT i k2 nQ 1),.h 59 2 2 (a3.fn Dc),.h 3 1 2 (aB.fn CJ),.cells 35 (gT i k2 nQ 1)] a ?_ ?_)
 .simp only[U.Z,U,bb,a_];and_intros<;>first|rfl|exact bu.nil|(intro j d;match j,d with|0,_=>rfl|1,_=>rfl)
 refine g.cv () [1,2] ?_ (λl e=>absurd e E);simp
def El(d:Int)(b:cB)(a:Int)(e:p c6):cB×Bool:=
 if h0 d b=f/\(1<=a/\a<=2)/\dP e=f then(if fs d b e=f then b else ft d b a e,!fs d b e)else(([],[],[]),m)
end
section
variable {r:aj V}
def yb:∀a,a<2->([0,1]:p Nat)[a]?=h a:=λa b=>by
 match a,b with
 |0,_=>rfl
 |1,_=>rfl
def ht(a:Int)(e:cB)(d:dW)(b:p (Int×Int)×p Int):p (Int×Int)×p Int:=
 if b.2.getD (a-1).toNat 0=0 then(b.1.set (a-1).toNat (kT (b.1.getD (a-1).toNat (0,0)) (oB e d).2.2).1,b.2.set (a-1).toNat (kT (b.1.getD (a-1).toNat (0,0)) (oB e d).2.2).2)else b
def tl{bU}{b}{d}{bd}(a:c bd.1=2)(e:c bd.2=2):(ht bU b d bd).1.length=2/\(ht bU b d bd).2.length=2:=by unfold ht;split<;>simp[a,e]
abbrev Ns:an:=.cells 59 [.c (.int .i64 0),.c (.int .i64 0)]
abbrev Dw(a:Int×Int):an:=.cells 59 [.c (.int .i64 a.1),.c (.int .i64 a.2)]
abbrev afd:p O:=[.c (.int .i64 0),cG,cG,cG,cG,cG,.c (.int .i64 0),.c (.int .i64 0),.c (.int .i64 0),.c (.V []),cG,cG]
abbrev fX:an:=.cells 35 afd
def If(b:Int)(e:dR)(d:dW)(da:p (Int×Int))(a:p Int)(g:Int×Int)(_ i j:Bool):p an:=
 match i,j with
 |false,_=>ln da a++[.cells 35 (gT b e d 0),fX]
 |true,m=>ln da a++[.cells 35 (gT b e d 0),fX,Ns]
 |true,f=>ln da a++[.cells 35 (gT b e d 0),fX,Dw g]
abbrev ae5(j:dR)(g:dW)(a:Int)(i:Int×Int)(d:cB)(b:(Int×Int)×Int)(e:Nat):z:=
 [aH 2 10,cD 0 (.S 2 2 0 2),S a,S (a-1),cD 0 (.bz 2 2 (0+(a-1).toNat) 0),qo i,aH 2 1,aH 2 1,b' j.1,aH 2 6,eF g,b' d,a3.S d.2.2,pM b,pM b,qo b.1,S b.2,aH 4 0,.any,S b.2].getD e .any
set_option maxRecDepth 20000 in
def Cs(i)(e)(d)(b)(da)(C)(w:rk e.1)(N:1<=b/\b<=2)(Q:c da=2)(K:c C=2):
  Z r 34 [.q (.agg (gT i e d 0)),S b] (ln da C) (.q (.agg (gT i e d 0))) (ln (ht b e.1 d (da,C)).1 (ht b e.1 d (da,C)).2):=by
 refine Z.bp be func34 rfl rfl rfl λJ=>?_;have O:=(zm (r:=r) w d).fp.aN;have aE:=(zm (r:=r) w d).dx;unfold ht;generalize oB e.1 d=j at *;have M:(b-1).toNat<2:=y;have B:(0:Nat)+(b-1).toNat<2:=y;have E:da.getD (b-1).toNat (0,0)=da.getD (0+(b-1).toNat) a3.I:=q_;have R:(da.getD (0+(b-1).toNat) a3.I)=(da.getD (0+(b-1).toNat) a3.I):=rfl;rw[E];have F:=W5 (r:=r) (da.getD (0+(b-1).toNat) a3.I) j.2.2 O;generalize kT (da.getD (0+(b-1).toNat) a3.I) j.2.2=l at *;have k:a9 r [(68,e5 [b' e.1,eF d] (b' j)),(67,e5 [qo (da.getD (0+(b-1).toNat) a3.I),a3.S j.2.2] (pM l))]:=.cons (fu aE) (.cons (fu F) .nil);have A:a8 .i64 (b-1):=nT;have cz:0<=b-1/\b-1<((2:Nat):Int):=y;have D:2=2/\0+(b-1).toNat<2:=⟨rfl,B⟩;refine bg k [(1000001,f)] a v ?_;refine g.cx b7 (ae5 e d b (da.getD (0+(b-1).toNat) a3.I) j l) (lV (If i e d da C l.1) 19 17 18) a a a a
  ⟨.aE,
  .aE,
  .aE,
  .dw be k (cz:=by exact A),
  .dw be k (cz:=by exact cz),
  .dw be k (cz:=by exact D),
  .aE,
  .aE,
  .aE,
  .aE,
  .aE,
  .dw be k (cz:=by exact a),
  .aE,
  .dw be k (cz:=by exact a),
  .aE,
  .aE,
  .aE,
  cu.eC a a a a a (λx=>by cases x<;>exact eh (bh:=[]) be k (ao:=h _) a v),
  cu.eD a a a a a (λx=>by cases x<;>exact eh (bh:=[]) be k (ao:=h _) a v),
  cu.eB a a a a (λs I=>by cases s<;>cases I<;>exact aV.y),v⟩ ?_
 intro z t;show g r _ _ _ _ _ (If i e d da C l.1 (z 19) (z 17) (z 18));rw[t 19 cc,t 17 cc,t 18 cc];have u:C.getD (0+(b-1).toNat) aB.I=C.getD (b-1).toNat 0:=q_;by_cases p:C.getD (b-1).toNat 0=0
 .rw[bs p];refine bg k [(30,f)] a ?_ ?_
  .simp only[U,u,p,a8,gh,bb,a_];omega
  have n:=a3.cW da (0+(b-1).toNat) l.1 2 y;have o:=aB.cW C (0+(b-1).toNat) l.2 2 y;rw[cZ]at n o;refine g.bg [.h 59 2 2 (a3.fn (da.set (b-1).toNat l.1)),.h 3 1 2 (aB.fn (C.set (b-1).toNat l.2)),.cells 35 (gT i e d 0),.cells 35 (gT i e d 0),Dw l.1] a ?_ ?_
  .simp only[U.Z,U,cZ,bb,a_];and_intros<;>first|exact bu.same|exact n|exact o|rfl
  exact PC
 rw[bm p];refine bg k [(30,m)] a ?_ ?_
 .simp only[U,u,a8,eY,d_,bb,a_];and_intros<;>first|exact p|omega
 exact PC
abbrev jf:=dR×dW×p (Int×Int)×p Int
def oO(d:Int)(b:jf)(a:Int)(e:p c6):jf×Bool:=
 if(ht a b.1.1 b.2.1 b.2.2).2.getD (a-1).toNat 0=0/\b.2.1.1=0 then
  (if(fD d b.1 a e).2=f then(((fD d b.1 a e).1,b.2.1,ht a (fD d b.1 a e).1.1 b.2.1 (ht a b.1.1 b.2.1 b.2.2)),f)else((b.1,b.2.1,ht a b.1.1 b.2.1 b.2.2),m))
 else((b.1,b.2.1,ht a b.1.1 b.2.1 b.2.2),m)
def cj(d:Int)(a:jf)(b:gF):jf×Bool:=
 if b.1=1 then(if(1<=b.2.1/\b.2.1<=2)/\dP b.2.2.1=f then oO d a b.2.1 b.2.2.1 else(a,m))
 else if b.1=2 then(if 1<=b.2.1/\b.2.1<=2 then((a.1,a.2.1,ht b.2.1 a.1.1 a.2.1 a.2.2),f)else(a,m))
 else if b.1=3 then((a.1,b.2.2.2.1,a.2.2),f)
 else if b.1=4 then(if c a.1.2.2=0 then(((kk d a.1.1 b.2.2.2.2).1,a.2),f)else(a,m))
 else if b.1=5 then((jz a.1,a.2),qA a.1)
 else(a,m)
structure fY(k:Nat)(b:jf):Prop where
 a:fe (6000+240*k) b.1
 bl:c b.2.2.1=2
 b7:c b.2.2.2=2
def D'{b}{bU}{o}(g:fe k b)(e:(fD i b bU o).2=f):fe (k+240) (fD i b bU o).1/\(fD i b bU o).1=pG i b bU o/\hh i b=f/\(1<=bU/\bU<=2)/\dP o=f/\fs i b.1 o=m:=by
 unfold fD at e⊢;split at e
 .rename_i d;rw[bs d];simp only[qK,cp,bA]at d;split at e
  .cases e
  rename_i s;have s:fs i b.1 o=m:=by simpa using s
  rw[bm FU];exact⟨g.cP d.2 d.1.2 s,a,d.1.1,d.1.2,d.2,s⟩
 cases e
def fY.cP{b}{bU}{o}(u:fY k b):fY (k+1) (oO i b bU o).1:=by
 have b2:=tl (bU:=bU) (b:=b.1.1) (d:=b.2.1) (bd:=b.2.2) u.bl u.b7;unfold oO;split
 .split
  .rename_i j;have a:=tl (bU:=bU) (b:=(fD i b.1 bU o).1.1) (d:=b.2.1) (bd:=ht bU b.1.1 b.2.1 b.2.2) b2.1 b2.2;exact⟨(D' u.a j).1.mono y,a.1,a.2⟩
  exact Fu
 exact Fu
def fY.mono{k A}{b}(a:fY k b)(d:k<=A):fY A b:=⟨a.a.mono y,a.bl,a.b7⟩
def fY.do{b}{a}(u:fY k b):fY (k+1) (cj i b a).1:=by
 unfold cj;split
 .split
  .exact u.cP
  exact u.mono y
 split
 .split
  .have b2:=tl (bU:=a.2.1) (b:=b.1.1) (d:=b.2.1) (bd:=b.2.2) u.bl u.b7;exact Fu
  exact u.mono y
 split
 .exact⟨u.a.mono y,u.bl,u.b7⟩
 split
 .split
  .exact⟨(fe.iC u.a.bm).mono y,u.bl,u.b7⟩
  exact u.mono y
 split
 .exact⟨(fe.step u.a).mono y,u.bl,u.b7⟩
 exact u.mono y
abbrev Cc(b:Int)(a:jf):z:=.q (.agg (gT b a.1 a.2.1 0))
abbrev EJ(d:Int)(a:jf)(b:Bool):z:=.Q [.agg (gT d a.1 a.2.1 0),.aq (.c (.bool b))]
abbrev hc(a:jf):p an:=ln a.2.2.1 a.2.2.2
def W2(i)(b)(bU)(o)(k)(l:fY k b)(D:k<=1000)(w:1<=bU/\bU<=2):
  Z r 33 [Cc i b,S bU,bF.S o] (hc b) (EJ i (oO i b bU o).1 (oO i b bU o).2) (hc (oO i b bU o).1):=by
 refine Z.bp be func33 rfl rfl rfl λC=>?_;have x:=Cs (r:=r) i b.1 b.2.1 bU b.2.2.1 b.2.2.2 l.a.bm.eE w l.bl l.b7;have A:=XE (r:=r) i b.1 bU o (l.a.b_ y);have t:=tl (bU:=bU) (b:=b.1.1) (d:=b.2.1) (bd:=b.2.2) l.bl l.b7;have z:=D' (i:=i) (bU:=bU) (o:=o) l.a;unfold oO;rw[show((b.2.2.1,b.2.2.2):p (Int×Int)×p Int)=b.2.2 from a]at x;generalize ht bU b.1.1 b.2.1 b.2.2=e at *;have s:e.2.getD (0+(bU-1).toNat) aB.I=e.2.getD (bU-1).toNat 0:=q_;refine cx a v (g.aF x [0,1] a ?_);by_cases j:e.2.getD (bU-1).toNat 0=0
 rotate_left
 .rw[bm (λl=>j l.1)];refine bR [(19,f),(25,f)] a ?_ ?_
  .simp only[U,s,a8,kh,d_,bb,a_];and_intros<;>first|exact j|omega
  exact oW
 by_cases n:b.2.1.1=0
 rotate_left
 .rw[bm (λl=>n l.2)];refine bR [(19,m),(25,f)] a ?_ ?_
  .simp only[U,s,j,a8,kh,iG,d_,bb,a_];and_intros<;>first|exact n|omega
  exact oW
 rw[bs ⟨j,n⟩];refine bR [(19,m),(25,m)] a ?_ ?_
 .simp only[U,s,j,n,a8,iG,bb,a_];omega
 refine g.aF A [] a ?_;cases jP:(fD i b.1 bU o).2 with
 |false=>
  rw[bm E];exact bR [(38,f)] a uh oW
 |true=>
  rw[bs a];have B:=(z jP).1;generalize(fD i b.1 bU o).1=w2 at *;have u:=Cs (r:=r) i w2 b.2.1 bU e.1 e.2 B.bm.eE w t.1 t.2;rw[show((e.1,e.2):p (Int×Int)×p Int)=e from a]at u;exact bR [(38,m)] a uh (g.aF u [0,1] a (cx a v oW))
def tN(k):∀(e b:p Int)j,(b++e).Pairwise (· < ·)->(if j=f then True else ∀d∈b,d<k)->(j=f->∀d∈e,k<=d/\(k∈b)) ->
  (if(e.foldl (gm k) (b,j)).2=f then(e.foldl (gm k) (b,j)).1 else(e.foldl (gm k) (b,j)).1++[k]).Pairwise (· < ·)
 |[],b,j,u,s,_=>by
  simp[h5]at u;cases j<;>simp at s⊢
  .exact nd.2 ⟨u,by simp,by exact bw⟩
  omega
 |i::e,b,j,u,s,y=>by
  rw[iI];obtain⟨x,o,t⟩:=nd.1 u;obtain⟨w,A⟩:=iF.1 o;have B:∀d∈b,d<i:=λd g=>t d g i ir;have n:((b++[i])++e).Pairwise (· < ·):=wF;have v:(b++e).Pairwise (· < ·):=nd.2 ⟨x,A,λd g r l=>t d g r (mt _ l)⟩;unfold gm;cases j with
  |true=>
   simp[dJ];split
   .exact tN k e b f v E λ_ d g=>⟨by grind,(y a i ir).2⟩
   exact tN k e (b++[i]) f n E λ_ d g=>⟨by grind,AL _ (y a i ir).2⟩
  |false=>
   simp[kg,dn]at s⊢;split
   .split
    .rename_i z;subst z;exact tN i e (b++[i]) f n E λ_ d g=>⟨by grind,by simp⟩
    refine tN k e (b++[k,i]) f ?_ E λ_ d g=>⟨by grind,by simp⟩
    rw[mu];refine nd.2 ⟨x,iF.2 ⟨λr l=>?_,o⟩,λd g r l=>?_⟩
    .rcases e4.1 l with rfl|l
     .omega
     have:=w r l;omega
    rcases e4.1 l with rfl|l
    .exact s d g
    exact t d g r l
   exact tN k e (b++[i]) m n (by simp;grind) E
def aae{d}{k}(u:d.Pairwise (· < ·)):(eZ d k).Pairwise (· < ·):=tN k d [] m wF E E
def CW:∀{d a:p Int},a.Pairwise (· < ·)->(d.foldl eZ a).Pairwise (· < ·)
 |[],a,b=>b
 |e::d,a,b=>CW (d:=d) (aae b)
def aaH(d):(hX d).Pairwise (· < ·):=by
 unfold hX;have:∀(d:p eI) b,b.Pairwise (· < ·)->(d.foldl (λa e=>(gz e.2).foldl eZ a) b).Pairwise (· < ·):=λd=>by
  induction d with
  |nil=>simp
  |cons e d g=>exactλb i=>g _ (CW i)
 simp_all
def Yi(d):c (d.flatMap gf)<=c (hp d):=by
 induction d with
 |nil=>simp
 |cons l d a=>
  have:c (gf l)<=c (ea l.2):=Re;simp[hp,sx,dk]at a⊢;omega
def rS(b:p Int)(d:Int):Int:=match b.findIdx? (λe=>e==d)with
 |some a=>a
 |none=>-1
def U3(d)(ab):Z r 124 [aB.S d,S ab] [] (S (rS d ab)) []:=by
 refine Z.K func124 rfl λl=>?_;have t:=l.S 0 a;refine a0 a v (g.aL 0 (λb=>b<=c d/\∀e,e<b->d.getD e 0≠ab) (λb:Nat=>[(0,aB.S d),(1,S ab),(7,S (c d)),(8,S b)]) (λ_=>[]) (λb=>c d-b) 0 a E a v a ⟨by omega,by omega⟩ ?_);rintro b ⟨o,p⟩;by_cases k:b<c d
 .have j:d.getD (b:Int).toNat aB.I=d.getD b 0:=rfl;by_cases s:d.getD b 0=ab
  .have:rS d ab=b:=by
    have:d.findIdx? (λi=>i==ab)=h b:=by rw[AR];exact⟨k,by grind,λe n=>by grind⟩
    simp[rS,this]
   rw[this];refine a7 [(9,f),(16,f)] a ?_ (g.aX (bW.zero a));simp only[U,j,bA,gW,bb,a_];and_intros<;>first|omega|omega
  refine a7 [(9,f),(16,m)] a ?_ (g.aB (b+1) a ?_ v ⟨k,λe n=>?_⟩ y)
  .simp only[U,j,a8,bA,eY,bb,a_];and_intros<;>first|grind|omega
  .simp
  grind
 have:rS d ab=-1:=by have:d.findIdx? (λi=>i==ab)=q:=wD;simp[rS,this]
 rw[this];exact QF
abbrev BB:bL:=er (e3 aB) db (λa b=>bj (a.contains b)) λ_ _=>[]
def MF:bM r 83 BB:=.bn λb d _=>by refine Z.K func83 rfl λi=>?_;have e:a9 r [(124,er (e3 aB) db (λb d=>S (rS b d)) λ_ _=>[])]:=.cons (.bn λb d _=>U3 b d) .nil;refine ca e a NE (g.aw a ?_);simp[U,aB.E,a_];unfold rS;grind
def UG(l)(b):Z r 82 [iR l,ax (.O [.S m 1 (c b) (aB.fn b)])] [] (bj (!b.contains l.1)) []:=by refine Z.K func82 rfl λe=>?_;have d:a9 r [(83,BB)]:=.cons MF .nil;refine ca d a NE (g.aw a ?_);simp only[aB.E];simp
abbrev GB(e:cB)(b:p eI)(d:O)(a:p Int)(i:aa)(g:p Int):p an:=[j1 e,.x,.cells 30 mb,.x,.x,.cells 30 [cL a2 e.1,cL bk b,cL a3 e.2.2,d,.r 6 1 (c a) (aB.fn a)],.r 3 1 (c a) (aB.fn a),jk i g]
def TO(i)(b)(j)(n:dQ b)(t:n4 b):Z (aj.aV V) 42 [S i,b' b,aB.S j] [] (j4 (kk i b j).1 (kk i b j).2) []:=by
 refine Z.bG func42 rfl rfl rfl λz=>?_;have l:a9 (aj.aV V) [(51,xC)]:=.cons EG .nil;have N:=n.a1;have T:=n.a4;unfold kk;cases r:h0 i b with
 |false=>
  refine g.aT b7 dd l [(17,f)] 200 a ?_ ?_
  .simp only[U,a2.E,a2.U,bk.E,bk.U,a3.E,a3.U,r,t,bb,a_,is]
  refine g.freeze 6 2 a a a ?_;refine g.cu dd [] a ?_ a a a fO;simp
 |true=>
 rw[bs a];refine g.aT b7 dd l [(17,m)] 200 a ?_ ?_
 .simp only[U,a2.E,a2.U,bk.E,bk.U,a3.E,a3.U,r,t,bb,a_,gu]
 refine g.aF (pg b n.a1 n.bs n.a4 n.bB n.aN) [] a (g.aT b7 dd l [(1000004,f)] 200 a v (g.freeze 5 1 a a a ?_));refine g.aT b7 dd l [] 200 a v (g.a' (IJ b.2.1 n.a4 82 [.S m 1 (c j) (aB.fn j)] (λk=>!j.contains k.1) λk _=>UG k j) [4] a bp ?_);rintro⟨F,C⟩;simp only[Bool.not_not]at C⊢;have B:c (b.2.1.filter λk=>j.contains k.1)<=c b.2.1:=kI _ _;have J:∀k∈b.2.1.filter (λk=>j.contains k.1),k∈b.2.1:=λk s=>(ji.1 s).1;have M:c (hp (b.2.1.filter λk=>j.contains k.1))<=c (hp b.2.1):=Gk b.2.1 λk=>j.contains k.1;generalize b.2.1.filter (λk=>j.contains k.1)=d at *;refine g.aT b7 dd l [(1000005,f)] 200 a v (g.bF 4 a a a (by simp;exact B) (by simp;exact⟨v,B⟩) (g.bF 3 a a a E (by simp;exact v) (g.cm 5 4 3 1 (aB.fn []) a a ?_)));refine g.bg [j1 b,.x,.cells 30 mb,.x,.x,.cells 30 [cL a2 b.1,cL bk d,cL a3 b.2.2,cG,.r 6 1 0 (aB.fn [])],.r 3 1 0 (aB.fn [])] a ?_ ?_
 .simp only[U.Z,U,bb,a_];and_intros<;>first|exact bu.same|exactλe p=>C e p|rfl|simp
 refine g.aT b7 dd l [] 200 a v (g.h4 a a a λw=>?_);refine g.aT b7 dd l [] 200 a v ?_;refine g.aL 8 (λe=>e<=c d) (λe:Nat=>[(4,aH 0 0),(6,aH 2 0),(8,aH 5 0),(9,sW w),(32,bk.S d),(33,S (c d)),(34,S e)])
  (λe=>GB b d cG [] w ((d.take e).flatMap gf)) (λe=>c d-e) 0 a E a E a y ?_
 intro e p;by_cases o:e<c d
 .have x:d.getD e bk.I=d.getD e (0,[]):=rfl;have s:=t.dX _ (J _ (ou (I:=(0,[])) o));have R:=Gm o;have K:=t.ey;have A:(d.take (e+1)).flatMap gf=(d.take e).flatMap gf++gf (d.getD e (0,[])):=by rw[ih o (0,[])];simp
  generalize d.getD e (0,[])=k at *;refine g.aT b7 dd l [(35,f)] 200 a bV ?_;simp only[c9,x];refine g.aF (Cv k s.1 y) [] a (g.aT b7 dd l [] 200 a v (g.aF (Iw w ((d.take e).flatMap gf) (gf k)) [7] a ?_));rw[<-A];refine g.aT b7 dd l [] 200 a ?_ (g.aB (e+1) a E E o y);exact oV
 obtain rfl:e=c d:=y;rw[c8];have W:=Yi d;have K:=t.ey;refine g.aT b7 dd l [(35,m)] 200 a E (g.aC ?_);refine g.aT b7 dd l [] 200 a v (g.aF (V1 w (d.flatMap gf) (hX d) y (aaH d) λQ=>by rw[tp];simp[yE]) [7] a (g.aT b7 dd l [] 200 a v ?_));refine g.aL 8 (λe=>e<=c b.1) (λe:Nat=>[(4,aH 0 0),(6,aH 2 0),(8,aH 5 0),(47,a2.S b.1),(48,S (c b.1)),(49,S e)])
  (λe=>GB b d (cL aB (hX d)) ((b.1.take e).map (·.1)) w (d.flatMap gf)) (λe=>c b.1-e) 0 a E a E a y ?_
 intro e p;have O:c ((b.1.take e).map (·.1))=e:=bV;by_cases o:e<c b.1
 .have x:b.1.getD e a2.I=b.1.getD e (0,[]):=rfl;have A:=map_take (ae:=λu:cb=>u.1) o (0,[]);generalize(b.1.take e).map (λu:cb=>u.1)=D at *;generalize b.1.getD e (0,[])=u at *;have s:=aB.a0 D u.1;refine g.aT b7 dd l [(50,f)] 200 a ?_ (g.aB (e+1) a E ?_ o y)
  .simp[-al,x,o,a8,show ef.bytes=8 from a];omega
  rw[A];simp only[U.Z,U,c9,x,dk,gG,bb,a_];and_intros<;>first|exact bu.same|exact s|rfl|omega
 obtain rfl:e=c b.1:=y;rw[c8];refine g.aT b7 dd l [(50,m)] 200 a E (g.aC ?_);refine g.aT b7 dd l [] 200 a v (g.freeze 8 5 a a a ?_);refine g.freeze 6 2 a a a ?_;refine g.cu dd [] a ?_ a a a fO;simp[bk.E]
def IK(i)(b)(d)(k)(e:fY k b)(w:k<=1000):
  Z r 13 [Cc i b,lQ d] (hc b) (EJ i (cj i b d).1 (cj i b d).2) (hc (cj i b d).1):=by
 refine Z.bp be func13 rfl rfl rfl λz=>?_;have n:=e.a.b_ y;have x:a9 r [(24,jQ),(32,sP),(35,G0)]:=.cons kB (.cons t32 (.cons adG .nil));unfold cj;by_cases C:d.1=1
 .rw[bs C];by_cases s:1<=d.2.1/\d.2.1<=2
  rotate_left
  .rw[bm (λe=>s e.1)];refine bg x [(13,f),(16,m),(21,m)] a ?_ ?_
   .simp only[U,C,gh,bb,a_];grind
   exact oW
  cases j:dP d.2.2.1 with
  |false=>
   rw[bm E];exact bg x [(13,f),(16,f),(21,m)] a PJ oW
  |true=>
   rw[bs ⟨s,rfl⟩];have p:=W2 (r:=r) i b d.2.1 d.2.2.1 k e w s;exact bg x [(13,f),(16,f),(21,f)] a PJ (g.aF p [0,1] a Fm)
 rw[bm C];by_cases s:d.1=2
 .rw[bs s];by_cases j:1<=d.2.1/\d.2.1<=2
  rotate_left
  .rw[bm j];refine bg x [(13,m),(31,f),(34,m)] a ?_ ?_
   .simp only[U,s,gh,bb,a_];grind
   exact oW
  rw[bs j];have u:=Cs (r:=r) i b.1 b.2.1 d.2.1 b.2.2.1 b.2.2.2 e.a.bm.eE j e.bl e.b7;refine bg x [(13,m),(31,f),(34,f)] a ?_ ?_
  .simp only[U,s,j,ng,and_self,gh,bb,a_];decide
  exact g.aF u [0,1] a Fm
 rw[bm s];by_cases j:d.1=3
 .rw[bs j];refine bg x [(13,m),(31,m),(40,f)] a ?_ ?_
  .simp only[U,j,gh,bb,a_];decide
  exact oW
 rw[bm j];by_cases o:d.1=4
 .rw[bs o];by_cases l:c b.1.2.2=0
  .rw[bs l];have t:(c b.1.2.2:Int)=0:=y;refine bg x [(13,m),(31,m),(40,m),(46,f),(51,f)] a ?_ ?_
   .simp only[U,o,t,n.bm,n.b9,a2.E,a2.U,bk.E,bk.U,a3.E,a3.U,aB.E,aB.U,gh,bb,a_];decide
   refine g.cv () [0,1] ?_ yb;exact z3
  rw[bm l];refine bg x [(13,m),(31,m),(40,m),(46,f),(51,m)] a ?_ ?_
  .simp only[U,o,gh,eY,d_,bb,a_];and_intros<;>first|decide|omega
  exact oW
 rw[bm o];by_cases l:d.1=5
 .rw[bs l];have p:=Xp (r:=r) b.1 n.bm n.cA n.cM;refine bg x [(13,m),(31,m),(40,m),(46,m),(67,f)] a ?_ ?_
  .simp only[U,l,gh,bb,a_];decide
  exact g.aF p [] a Fm
 rw[bm l];refine bg x [(13,m),(31,m),(40,m),(46,m),(67,m)] a ?_ ?_
 .simp only[U,eY,d_,bb,a_];grind
 exact oW
abbrev vw(a:dW):p O:=[.c (.int .i64 a.1),.c (.int .i64 a.2.1),.c (.int .i64 a.2.2.1),.c (.V a.2.2.2)]
abbrev B'(da:p (Int×Int))(a:p Int):p an:=[.h 59 2 (c da) (a3.fn da),.h 3 1 (c a) (aB.fn a)]
abbrev zG(a:fo)(d b:Nat):p O:=.c (.int .i64 a.1)::([cL a2 a.2.1.1.1,cL bk a.2.1.1.2.1,cL a3 a.2.1.1.2.2,cL aB a.2.1.2.1,.r d 1 (c a.2.1.2.2) (aB.fn a.2.1.2.2)]++vw a.2.2.1++[.R b (.S (c a.2.2.2.1) 2 0 (c a.2.2.2.1)),.R (b+1) (.S (c a.2.2.2.2) 1 0 (c a.2.2.2.2))])
abbrev m3(a:fo):an:=.cells 35 (nO a)
abbrev hU(a:dR):an:=.r 3 1 (c a.2.2) (aB.fn a.2.2)
def Ib(a:fo)(d e g i:Bool):p an:=
 match d,e,g,i with
 |true,f,f,f=>[m3 a,.cells 35 (.c (.int .i64 a.1)::([cL a2 a.2.1.1.1,cL bk a.2.1.1.2.1,cL a3 a.2.1.1.2.2,cL aB a.2.1.2.1,.r 2 1 (c a.2.1.2.2) (aB.fn a.2.1.2.2)]++vw a.2.2.1++[.R 3 (.S (0+c a.2.2.2.1) 2 0 (0+c a.2.2.2.1)),.R 4 (.S (0+c a.2.2.2.2) 1 0 (0+c a.2.2.2.2))])),hU a.2.1,
   .h 59 2 (0+c a.2.2.2.1) (cg 0 (λb=>([]:p (p N)).getD b []) (a3.fn a.2.2.2.1)),.h 3 1 (0+c a.2.2.2.2) (cg 0 (λb=>([]:p (p N)).getD b []) (aB.fn a.2.2.2.2))]
 |true,f,f,m=>[m3 a,fX,hU a.2.1,.h 59 2 (0+c a.2.2.2.1) (cg 0 (λb=>([]:p (p N)).getD b []) (a3.fn a.2.2.2.1)),.h 3 1 (0+c a.2.2.2.2) (cg 0 (λb=>([]:p (p N)).getD b []) (aB.fn a.2.2.2.2))]
 |true,f,m,_=>[m3 a,fX,hU a.2.1,.h 59 2 (0+c a.2.2.2.1) (cg 0 (λb=>([]:p (p N)).getD b []) (a3.fn a.2.2.2.1))]
 |true,m,_,_=>[m3 a,fX,hU a.2.1]
 |false,_,_,_=>[m3 a,fX]
abbrev KJ(b:Nat):z:=ax (.S f b 0 λa=>([]:p (p N)).getD a [])
abbrev Ew(a:dR)(b:Nat):p O:=[cL a2 a.1.1,cL bk a.1.2.1,cL a3 a.1.2.2,cL aB a.2.1,.r b 1 (c a.2.2) (aB.fn a.2.2)]
abbrev aeZ(a:fo)(b:Nat):z:=
 [aH 0 0,S a.1,aH 0 1,gw a.2.1,.q (.agg (Ew a.2.1 2)),aH 0 6,eF a.2.2.1,KJ 2,aH 0 10,a3.S a.2.2.2.1,cD 3 (.S (0+c a.2.2.2.1) 2 0 (0+c a.2.2.2.1)),KJ 1,aH 0 11,aB.S a.2.2.2.2,cD 4 (.S (0+c a.2.2.2.2) 1 0 (0+c a.2.2.2.2)),
  .q (.agg (.c (.int .i64 a.1)::(Ew a.2.1 2++vw a.2.2.1++[.R 3 (.S (0+c a.2.2.2.1) 2 0 (0+c a.2.2.2.1)),.R 4 (.S (0+c a.2.2.2.2) 1 0 (0+c a.2.2.2.2))]))),.any].getD b .any
set_option maxRecDepth 20000 in
def va(b)(s:p5 b.2.1)(k:c b.2.2.2.1<=4000000)(I:c b.2.2.2.2<=4000000):Z r 14 [fZ b] [] (.q (.agg (zG b 0 1))) ([hU b.2.1]++B' b.2.2.2.1 b.2.2.2.2):=by
 refine Z.bp be func14 rfl rfl rfl λl=>?_;have x:a9 r [(37,k' [gw b.2.1] [] (.q (.agg (Ew b.2.1 0))) [hU b.2.1])]:=.cons (l' (IE b.2.1 s.bm s.cA s.cM)) .nil;have i:(0+c b.2.2.2.1)*ys.bytes<=140737488355328:=by rw[show ys.bytes=16 from a];omega
 have e:(0+c b.2.2.2.2)*ef.bytes<=140737488355328:=by rw[show ef.bytes=8 from a];omega
 refine bg x [(1000001,f)] a v ?_;refine g.cx b7 (aeZ b) (mF (Ib b) 4 10 14 16) a a a a
  ⟨.aY,
  .aY,
  .aY,
  .aY,
  cu.ay a a a a a a (eh (bh:=[]) be x (ao:=h _) a ⟨rfl,rfl⟩),
  .aY,
  .aY,
  .aY,
  .aY,
  .aY,
  cu.eT a a a a a a (eh (bh:=[(3000013,f)]) be x (ao:=h _) a i),
  .aY,
  .aY,
  .aY,
  cu.eV a a a a a a (eh (bh:=[(3000017,f)]) be x (ao:=h _) a e),
  .aY,
  cu.eW a a a a a a (eh (bh:=[]) be x (ao:=h _) a v),v⟩ ?_
 intro z j;show g r _ _ _ _ _ (Ib b (z 4) (z 10) (z 14) (z 16));rw[j 4 cc,j 10 cc,j 14 cc,j 16 cc];refine qT x [] 1 a v (g.bg [m3 b,.cells 35 (zG b 2 3),hU b.2.1,.h 59 2 (c b.2.2.2.1) (a3.fn b.2.2.2.1),.h 3 1 (c b.2.2.2.2) (aB.fn b.2.2.2.2)] a ?_ ?_)
 .simp[pa]
 refine g.bj () [2,3,4] ?_ (λn d=>absurd d E);simp
def Ud(b)(j:p5 b.2.1)(d:c b.2.2.2.1<=4000000)(i:c b.2.2.2.2<=4000000):Z r 14 [fZ b] [] (fZ b) []:=by have e:=Z.bQ (aM:=[hU b.2.1,.h 59 2 (c b.2.2.2.1) (a3.fn b.2.2.2.1)]) (va (r:=r) b j d i) a E a E;have g:=Z.bQ (aM:=[hU b.2.1]) e a E a E;refine g.b2 a ?_ a;simp[hF]
end
section
variable {r:aj V}
def I5(A)(d)(e:c d<=4000000):Z r 76 [qo A,a3.S d] [] (pM (kT A d)) []:=by refine Z.bp be func76 rfl rfl rfl λj=>?_;have i:a9 r [(115,e5 [qo A,a3.S d] (pM (kT A d)))]:=.cons (fu (W4 A d e)) .nil;refine ca i a (by simp[a3.E];rfl) ?_;refine g.cv () [] ?_ (λk b=>absurd b E);simp
abbrev rM(a:gF):an:=.cells 38 (Ch a)
abbrev pR(a:Int)(d:dR)(b:dW):an:=.cells 35 (gT a d b 6)
abbrev acn(a:Int×Int):z:=ax (.val (.func (.func 76) #[.agg [.int .i64 a.1,.int .i64 a.2].toArray] #[]))
abbrev pA(d b:av×aa)(a:fo)(e:gF):p an:=k6 d b++[.cells 35 (nO a),rM e,fX]
abbrev No(i:Nat)(j:dR)(e:dW)(g:Int×Int)(b:cB)(a:(Int×Int)×Int)(d:Nat):z:=
 [acn g,aH 8 0,aH 8 0,aH 8 1,aH 8 1,b' j.1,aH 8 0,aH 8 0,aH 8 6,eF e,b' b,a3.S b.2.2,pM a,pM a,qo a.1,S a.2,aH i 0,.any,S a.2].getD d .any
def xP(a:p an)(b:Int×Int)(_ d e:Bool):p an:=
 match d,e with
 |false,_=>a
 |true,m=>a++[Ns]
 |true,f=>a++[Dw b]
abbrev qt(b:p Int):={a:Nat->p N // bu 2 a (aB.fn b)}
abbrev n'(e d:av×aa)(b:fo)(g:gF)(j:Int)(l:dR)(k:dW)(da:p (Int×Int))(a:Nat->p N)(i:gF):p an:=pA e d b g++[.h 59 2 2 (a3.fn da),.h 3 1 2 a,pR j l k]++[rM i]
set_option maxRecDepth 20000 in
def ID(t k)(o)(e)(A)(i)(n)(d)(b)(da)(l)(D:rk n.1)(M:1<=b/\b<=2)(R:c da=2)(O:c l=2):
  bl (ι:=qt (ht b n.1 d (da,l)).2) r 40 [aH 8 0,S b] (n' t k o e i n d da (aB.fn l) A) (λ_=>.Q []) (λF=>n' t k o e i n d (ht b n.1 d (da,l)).1 F.1 A++[.x]):=by
 refine bl.bR func40 rfl rfl rfl (g.aW ?_);have J:=(zm (r:=r) D d).fp.aN;have aE:=J5 (r:=r) D d;unfold ht;generalize oB n.1 d=p at *;have Q:(b-1).toNat<2:=y;have T:(0:Nat)+(b-1).toNat<2:=y;have K:da.getD (b-1).toNat (0,0)=da.getD (0+(b-1).toNat) a3.I:=q_;rw[K];have E:=I5 (r:=r) (da.getD (0+(b-1).toNat) a3.I) p.2.2 J;generalize kT (da.getD (0+(b-1).toNat) a3.I) p.2.2=u at *;have j:a9 r [(77,e5 [b' n.1,eF d] (b' p))]:=.cons (fu aE) .nil;have C:l.getD (0+(b-1).toNat) aB.I=l.getD (b-1).toNat 0:=q_;by_cases w:l.getD (b-1).toNat 0=0
 rotate_left
 .rw[bm w];refine g.fh 0 1 ?_;refine g.cO 10 a bp ?_;refine bg j [(15,f)] a ?_ ?_
  .simp only[U,C,a8,kh,d_,bb,a_];and_intros<;>first|exact w|omega
  exact OO
 rw[bs w];refine bg j [(15,m)] a ?_ ?_
 .simp only[U,C,w,a8,iG,bb,a_];omega
 refine g.cF _ _ a a (eB.hB a a a) λN=>?_;refine bg j [(1000002,f)] a v ?_;refine g.cx b7 (No 10 n d (da.getD (0+(b-1).toNat) a3.I) p u) (lV (xP (n' t k o e i n d da (aB.fn l) A) u.1) 18 16 17) a a a a
  ⟨.aE,
  .aE,
  .aE,
  .aE,
  .aE,
  .aE,
  .aE,
  .aE,
  .aE,
  .aE,
  .dw be j (cz:=by exact a),
  .aE,
  cu.eL a a a (λx s I=>aV.g2 (λ_ _ _ _=>ja a) a a N.2 a E a a a),
  .aE,
  .aE,
  .aE,
  cu.eC a a a a a (λx=>by cases x<;>exact eh (bh:=[]) be j (ao:=h _) a v),
  cu.eD a a a a a (λx=>by cases x<;>exact eh (bh:=[]) be j (ao:=h _) a v),
  cu.eB a a a a (λs I=>by cases s<;>cases I<;>exact aV.y),v⟩ ?_
 intro z B;show g r _ _ _ _ _ (xP (n' t k o e i n d da (aB.fn l) A) u.1 (z 18) (z 16) (z 17));rw[B 18 cc,B 16 cc,B 17 cc];refine bg j [(1000004,f)] a t7 (g.cO 10 a bp ?_);have dK:=a3.cW da (0+(b-1).toNat) u.1 2 y;have eJ:=aB.cW l (0+(b-1).toNat) u.2 2 y;rw[cZ]at dK eJ;refine g.bg (n' t k o e i n d (da.set (b-1).toNat u.1) (aB.fn l) A++[.x]) a Ps ?_;exact O7
abbrev uU(i g:av×aa)(b:fo)(d:gF)(k:Int)(n:dR)(l:dW)(da:p (Int×Int))(a:Nat->p N)(j:gF)(e:dR):p an:=pA i g b d++[.h 59 2 2 (a3.fn da),.h 3 1 2 a,pR k n l]++[rM j,.x,gn e]
set_option maxRecDepth 20000 in
def T7(t k)(o)(e)(A)(w)(i)(n)(d)(b)(da)(l)(E:rk n.1)(Q:1<=b/\b<=2)(T:c da=2)(M:c l=2):
  bl (ι:=qt (ht b n.1 d (da,l)).2) r 40 [aH 8 0,S b] (uU t k o e i n d da (aB.fn l) A w) (λ_=>.Q []) (λJ=>uU t k o e i n d (ht b n.1 d (da,l)).1 J.1 A w++[.x]):=by
 refine bl.bR func40 rfl rfl rfl (g.aW ?_);have K:=(zm (r:=r) E d).fp.aN;have aE:=J5 (r:=r) E d;unfold ht;generalize oB n.1 d=p at *;have R:(b-1).toNat<2:=y;have V:(0:Nat)+(b-1).toNat<2:=y;have O:da.getD (b-1).toNat (0,0)=da.getD (0+(b-1).toNat) a3.I:=q_;rw[O];have N:=I5 (r:=r) (da.getD (0+(b-1).toNat) a3.I) p.2.2 K;generalize kT (da.getD (0+(b-1).toNat) a3.I) p.2.2=u at *;have j:a9 r [(77,e5 [b' n.1,eF d] (b' p))]:=.cons (fu aE) .nil;have D:l.getD (0+(b-1).toNat) aB.I=l.getD (b-1).toNat 0:=q_;by_cases B:l.getD (b-1).toNat 0=0
 rotate_left
 .rw[bm B];refine g.fh 0 1 ?_;refine g.cO 12 a bp ?_;refine bg j [(15,f)] a ?_ ?_
  .simp only[U,D,a8,kh,d_,bb,a_];and_intros<;>first|exact B|omega
  exact OO
 rw[bs B];refine bg j [(15,m)] a ?_ ?_
 .simp only[U,D,B,a8,iG,bb,a_];omega
 refine g.cF _ _ a a (eB.hB a a a) λF=>?_;refine bg j [(1000002,f)] a v ?_;refine g.cx b7 (No 12 n d (da.getD (0+(b-1).toNat) a3.I) p u) (lV (xP (uU t k o e i n d da (aB.fn l) A w) u.1) 18 16 17) a a a a
  ⟨.aE,
  .aE,
  .aE,
  .aE,
  .aE,
  .aE,
  .aE,
  .aE,
  .aE,
  .aE,
  .dw be j (cz:=by exact a),
  .aE,
  cu.eL a a a (λx s I=>aV.g2 (λ_ _ _ _=>ja a) a a F.2 a N a a a),
  .aE,
  .aE,
  .aE,
  cu.eC a a a a a (λx=>by cases x<;>exact eh (bh:=[]) be j (ao:=h _) a v),
  cu.eD a a a a a (λx=>by cases x<;>exact eh (bh:=[]) be j (ao:=h _) a v),
  cu.eB a a a a (λs I=>by cases s<;>cases I<;>exact aV.y),v⟩ ?_
 intro z C;show g r _ _ _ _ _ (xP (uU t k o e i n d da (aB.fn l) A w) u.1 (z 18) (z 16) (z 17));rw[C 18 cc,C 16 cc,C 17 cc];refine bg j [(1000004,f)] a t7 (g.cO 12 a bp ?_);have dK:=a3.cW da (0+(b-1).toNat) u.1 2 y;have eJ:=aB.cW l (0+(b-1).toNat) u.2 2 y;rw[cZ]at dK eJ;refine g.bg (uU t k o e i n d (da.set (b-1).toNat u.1) (aB.fn l) A w++[.x]) a Ps ?_;exact O7
end
section
variable {r:aj V}
def VJ(R)(b)(C:c R.2<=4000000):Z r 128 [fG R,aB.S b] [] (fG (hH R b)) []:=by
 refine Z.bp be func128 rfl rfl rfl λo=>?_;have j:a9 r [(83,BB)]:=.cons MF .nil;refine bg j [(1000002,f)] a v (g.cm 2 1 131 2 (bI.fn []) a a ?_);refine ca j a v ?_;refine g.aL 4 (λe=>e<=c R.2) (λe:Nat=>[(1,aB.S b),(4,aH 1 0),(5,aH 2 0),(12,bI.S R.2),(13,S (c R.2)),(14,S e)])
  (λe=>Kj R ((R.2.take e).filter λd=>b.contains d.1)) (λe=>c R.2-e) 0 a E a E a y ?_
 intro e k;have n:=CN R.2 (λd=>b.contains d.1) k;by_cases u:e<c R.2
 .have I:R.2.getD e bI.I=d' R e:=rfl;have s:(R.2.take (e+1)).filter (λd=>b.contains d.1)=if b.contains (d' R e).1=f then(R.2.take e).filter (λd=>b.contains d.1)++[d' R e]else(R.2.take e).filter (λd=>b.contains d.1):=CO u (0,[]);generalize(R.2.take e).filter (λd=>b.contains d.1)=l at *;generalize d' R e=d at *;cases ae:b.contains d.1 with
  |true=>
   rw[bs ae]at s;have C:=bI.a0 l d;refine bg j [(15,f),(21,f)] a PG (g.aB (e+1) a E ?_ u y);exact Pp
  |false=>
   rw[bm dD]at s;refine bg j [(15,f),(21,m)] a PN (g.aB (e+1) a E ?_ u y);simp_all
 exact Pr
abbrev HK(a:dR)(b d:Bool):p an:=
 match b,d with
 |false,_=>[gn a,.cells 30 mb]
 |true,m=>[gn a,.cells 30 mb,.h 89 2 (c a.1.1) (a2.fn a.1.1),.h 96 2 (c a.1.2.1) (bk.fn a.1.2.1)]
 |true,f=>[gn a,.cells 30 [.R 2 (.S (c a.1.1) 2 0 (c a.1.1)),.R 3 (.S (c a.1.2.1) 2 0 (c a.1.2.1)),cL a3 a.1.2.2,cL aB (aB.af (c a.2.1) (aB.fn a.2.1)),cL aB (aB.af (c a.2.2) (aB.fn a.2.2))],.h 89 2 (c a.1.1) (a2.fn a.1.1),.h 96 2 (c a.1.2.1) (bk.fn a.1.2.1)]
abbrev aeY(a:dR)(b:Nat):z:=
 [aH 0 0,b' a.1,.q (.agg [.R 2 (.S (c a.1.1) 2 0 (c a.1.1)),.R 3 (.S (c a.1.2.1) 2 0 (c a.1.2.1)),cL a3 a.1.2.2]),aH 0 3,aB.S a.2.1,aB.S (aB.af (c a.2.1) (aB.fn a.2.1)),aH 0 4,aB.S a.2.2,aB.S (aB.af (c a.2.2) (aB.fn a.2.2)),
  .q (.agg [.R 2 (.S (c a.1.1) 2 0 (c a.1.1)),.R 3 (.S (c a.1.2.1) 2 0 (c a.1.2.1)),cL a3 a.1.2.2,cL aB (aB.af (c a.2.1) (aB.fn a.2.1)),cL aB (aB.af (c a.2.2) (aB.fn a.2.2))]),.any].getD b .any
def Jb(b)(j:dQ b.1)(i:c b.2.1<=4000000)(n:c b.2.2<=4000000):Z r 44 [gw b] [] (.q (.agg [.R 0 (.S (c b.1.1) 2 0 (c b.1.1)),cL bk b.1.2.1,cL a3 b.1.2.2,cL aB b.2.1,cL aB b.2.2])) [.h 89 2 (c b.1.1) (a2.fn b.1.1)]:=by
 refine Z.bp be func44 rfl rfl rfl λp=>?_
 have x:a9 r [(80,k' [b' b.1] [] (.q (.agg [.R 0 (.S (c b.1.1) 2 0 (c b.1.1)),.R 1 (.S (c b.1.2.1) 2 0 (c b.1.2.1)),.c (.S m 2 (c b.1.2.2) (a3.fn b.1.2.2))])) [.h 89 2 (c b.1.1) (a2.fn b.1.1),.h 96 2 (c b.1.2.1) (bk.fn b.1.2.1)]),
   (46,dm (e3 aB) (λd=>aB.S d) λd=>[c d<=4000000])]:=.cons (l' (pg b.1 j.a1 j.bs j.a4 j.bB j.aN)) (.cons (.bb λd l=>Cl d l) .nil)
 refine bg x [(1000001,f)] a v ?_;refine g.cx b7 (aeY b) (pm (HK b) 2 10) a a a a
  ⟨.bK,.bK,cu.gG a a (eh (bh:=[]) be x (ao:=h _) a E),.bK,.bK,.dv be x (cz:=by exact⟨aB.U _,by rw[aB.E];exact i⟩),.bK,.bK,.dv be x (cz:=by exact⟨aB.U _,by rw[aB.E];exact n⟩),.bK,
   cu.gH a a (eh (bh:=[]) be x (ao:=h _) a v),v⟩ ?_
 intro z e;show g r _ _ _ _ _ (HK b (z 2) (z 10));rw[e 2 cc,e 10 cc];refine qT x [] 1 a v (g.bF 3 a a a E E (g.bg [gn b,.cells 30 [.R 2 (.S (c b.1.1) 2 0 (c b.1.1)),cL bk b.1.2.1,cL a3 b.1.2.2,cL aB b.2.1,cL aB b.2.2],.h 89 2 (c b.1.1) (a2.fn b.1.1),.x] a ?_ ?_))
 .simp[aB.E,hF]
 refine g.bj () [2] ?_ (λo k=>absurd k E);simp
abbrev qg(a:p cb):an:=.h 89 2 (c a) (a2.fn a)
abbrev xN(b a:Nat):z:=cD 0 (.S b 2 0 a)
def U8(d)(A)(D:A<=c d)(J:c d<=4000000)(n)(ah)(j:cb->Bool)(z:∀s,s∈d.take A->Z r n [fG s,ax (.O ah)] [] (bj (j s)) []):
  Z r 102 [xN (c d) A,ax (.fn (.func n) [] [.O ah])] [qg d] (S (gN j (d.take A))) [qg d]:=by
 refine Z.K func102 rfl λF=>?_;refine a0 a v ?_;have C:c (d.take A)=A:=bV;have l:∀e,e<A->(d.take A).getD e (0,[])=d.getD e (0,[]):=λe p=>by simp[iq,p]
 refine g.aL 1 (λb=>b<=A/\∀e,e<b->j ((d.take A).getD e (0,[]))=m) (λb:Nat=>[(0,xN (c d) A),(1,ax (.fn (.func n) [] [.O ah])),(7,S A),(8,S b)]) (λ_=>[qg d]) (λb=>A-b) 0 a E a E a ⟨by omega,by omega⟩ ?_;rintro b ⟨w,k⟩;by_cases i:b<A
 .have B:d.getD b (0,[])∈d.take A:=by rw[<-l b i];grind
  have x:d.getD ((0+(b:Int).toNat:Nat)) a2.I=d.getD b (0,[]):=nU;refine a7 [(9,f)] a bw ?_;rw[x];refine g.aF (z _ B) [] a ?_;cases t:j (d.getD b (0,[]))with
  |true=>
   refine a7 [(16,f)] a E (g.aX (bW.mk [0] a ?_ a a a h9));simp[tb (o:=d.take A) (I:=(0,[])) y (by rw[l b i];exact t) k]
  |false=>
   refine a7 [(16,m)] a bH (g.aB (b+1) a E E ⟨i,λe p=>?_⟩ y);by_cases u:e=b
   .rw[u,l b i];exact t
   exact k e y
 refine a7 [(9,m)] a bV (g.aC ?_);refine a0 a v (g.aS [0] a ?_ h9);simp[tc (o:=d.take A) (I:=(0,[])) (λe p=>k e y)]
def oh(a:p cb)(b d:Nat):p cb:=(a.take b).eraseIdx d++(0,[])::a.drop b
def S8{d}(b:A<=c d)(a:e<A):c (oh d A e)=c d:=by unfold oh;rw[dk,Ga bV];simp;omega
def Up(d)(A e)(Q:A<=c d)(z:e<A)(O:c d<=4000000):
  Z r 129 [xN (c d) A,S e,S ((e:Int)+1)] [qg d] (xN (c d) (A-1)) [.h 89 2 (c d) (a2.fn (oh d A e))]:=by
 refine Z.K func129 rfl λR=>?_;refine bR [(16,m),(1000006,f)] a E2 ?_;have C:bT A (h (e:Int))-bT 0 q+(bT A q-bT 0 (h ((e:Int)+1)))=A-1:=E2;rw[C];refine g.region ?_;refine gR [] 4 a v (g.aO (a1.h5 be a a a a a a a a a y y y) a a ?_);refine g.aO (a1.eX be a a a a a a y) a a ?_;refine bR [(1000007,f)] a v (g.gU 0 (a2.fn (oh d A e)) a (λ_ _=>rfl) (λN idx p u t M=>?_) ?_)
 .have J:bT A (h (e:Int))-bT 0 q=e:=wG;have I:bT 0 (h ((e:Int)+1))=e+1:=bH;have D:bT A q=A:=rfl;simp only[c9];rw[J,I,D];have B:(oh d A e).getD idx (0,[])=if idx<e then d.getD idx (0,[])else if idx<A-1 then d.getD (idx+1) (0,[])else if idx<A then(0,[])else d.getD idx (0,[]):=by
   unfold oh;have x:c ((d.take A).eraseIdx e)=A-1:=Ny;simp only[al];by_cases o:idx<A-1
   .rw[kb y,List.getElem?_eraseIdx];by_cases i:idx<e
    .rw[bs i,bs i,iq,bs y]
    rw[bm i,bm i,bs o,iq,bs y]
   rw[hn y,x];by_cases F:idx=A-1
   .subst F;rw[bm y,bm y,bs y];simp
   obtain⟨k,rfl⟩:∃k,idx=A+k:=⟨idx-A,by omega⟩
   rw[bm y,bm y,bm y,show A+k-(A-1)=k+1 by omega];simp
  have b:(a2.a8 ((oh d A e).getD idx (0,[])))[u]?=h t:=M;rw[B]at b;by_cases o:idx=A-1
  .subst o;rw[bm y,bm y,bs y]at b;have E:nR (0+(A-1)) (0+(A-1)+(A-(A-1))) nz.zero (qN e (0+(e+1)) (A-(e+1)) (a2.fn d)) (A-1)=nz.zero:=bs y;rw[E]
   match u,b with
   |0,b=>exact⟨_,rfl,λK j=>by cases b;exact j⟩
   |1,b=>exact⟨_,rfl,λK j=>by cases b;exact Kg (l:=.S f 0 0 λ_=>[]) rfl ⟨rfl,rfl⟩ j⟩
  refine⟨t,?_,λ_ j=>j⟩;rw[<-b];congr 1;unfold nR qN;rw[bm y];have n:∀w,a2.fn d w=a2.a8 (d.getD w (0,[])):=λ_=>rfl;by_cases i:idx<e
  .rw[bm y,bs i,n]
  rw[bm i];by_cases s:idx<A-1
  .rw[bs y,bs s,n,show 0+(e+1)+(idx-e)=idx+1 by omega]
  rw[bm y,bm s,bm y,n]
 exact PM
end
end R1
end Go.AM
