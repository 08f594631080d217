/- Part 5. No condition. -/
import Derived.Test.YtemefbgdmkionaaGreatDoorA4
set_option linter.all false
set_option maxHeartbeats 8000000
open Go renaming Value → ak
open Option renaming some → aa
open Go renaming Program → aq
open Go renaming TypeId → ar
open Bool renaming true → ab
open Go renaming Oper → aw
open Go renaming FuncId → aV
open Go renaming execOp → ay
open Go renaming Operand → an
open Option renaming none → af
open Bool renaming false → ae
open Go renaming undef → aj
open List renaming getD_eq_getElem?_getD → ai
open Go renaming World → az
open List renaming range → bh
open Nat renaming beq → aA
open Nat renaming ble → bq
open Go.Op renaming bytesLess → bk
open Go.Proofs.Tryz renaming prog → ah
namespace Go.AM.R1
section
open Go.Proofs
variable {X:Cx ah}
abbrev YC(x:dh):D:=.e (.agg [.c (.int .i64 x.1),.c (.int .i64 x.2)])
def eL(x:dh)(acc:List dh×Bool)(y:dh):List dh×Bool :=
 if acc.2=ab then (if y.1=x.1 then acc else (acc.1++[y],ab)) else if x.1<=y.1 then (if y.1=x.1 then (acc.1++[x],ab) else (acc.1++[x,y],ab)) else (acc.1++[y],ae)
def pY(x:dh):∀ (l:List dh)(a:List dh),(l.foldl (eL x) (a,ab))=(a++l.filter λz=>!(z.1==x.1),ab)
 |[],a=>by simp
 |y::r,a=>by
  rw[ji]
  by_cases h:y.1=x.1
  .rw[show eL x (a,ab) y=(a,ab) by simp[eL,h],pY x r]
   simp[h]
  .rw[show eL x (a,ab) y=(a++[y],ab) by simp[eL,h],pY x r]
   simp[h]
def yJ(x:dh):∀ (l:List dh)(a:List dh),(if (l.foldl (eL x) (a,ae)).2=ab then (l.foldl (eL x) (a,ae)).1 else (l.foldl (eL x) (a,ae)).1++[x])=a++qg l x
 |[],a=>by simp[qg]
 |y::r,a=>by
  rw[ji]
  by_cases h:x.1<=y.1
  .have c:¬y.1<x.1:=by omega
   by_cases b:y.1=x.1
   .rw[show eL x (a,ae) y=(a++[x],ab) by simp[eL,b],pY]
    simp[qg,b]
   .rw[show eL x (a,ae) y=(a++[x,y],ab) by simp[eL,h,b],pY]
    simp[qg,c,b]
  .have c:y.1<x.1:=by omega
   rw[show eL x (a,ae) y=(a++[y],ae) by simp[eL,h],yJ x r]
   simp[qg,c]
def yK(x:dh):∀ (l:List dh)(a:List dh×Bool),(l.foldl (eL x) a).1.length<=a.1.length+l.length+1-(if a.2=ab then 1 else 0)
 |[],a=>by grind
 |y::r,a=>by
  rw[ji];have c:=yK x r (eL x a y);obtain⟨a,b⟩:=a;simp only[eQ];cases b with
  |true =>
   by_cases d:y.1=x.1
   .rw[show eL x (a,ab) y=(a,ab) by simp[eL,d]] at c ⊢
    simp at c ⊢;omega
   .rw[show eL x (a,ab) y=(a++[y],ab) by simp[eL,d]] at c ⊢
    simp at c ⊢;omega
  |false =>
   by_cases h:x.1<=y.1
   .by_cases d:y.1=x.1
    .rw[show eL x (a,ae) y=(a++[x],ab) by simp[eL,d]] at c ⊢
     simp at c ⊢;omega
    .rw[show eL x (a,ae) y=(a++[x,y],ab) by simp[eL,h,d]] at c ⊢
     simp at c ⊢;omega
   .rw[show eL x (a,ae) y=(a++[y],ae) by simp[eL,h]] at c ⊢
    simp at c ⊢;omega
abbrev qh(x:dh)(l:List dh)(i:Nat):List dh×Bool:=(l.take i).foldl (eL x) ([],ae)
def HG{x:dh}{l:List dh}{i:Nat}(h:i<l.length):qh x l (i+1)=eL x (qh x l i) (l.getD i (0,0)):=by
 unfold qh;rw[bu h (0,0),jC];rfl
def Cn(x:dh)(l:List dh)(i:Nat):(qh x l i).1.length<=l.length+1:=by
 have:=yK x (l.take i) ([],ae)
 grind
abbrev p4F(l:List dh)(x:dh)(i:Nat)(a:List dh×Bool):Fr:=[(0,oI.sl l),(3,.e (.one (.ptr 0 0))),(5,.e (.one (.vec 1 2 a.1.length (oI.fn a.1)))),(6,dB a.2),(7,dI i)]
abbrev p4B(x:dh)(a:List dh):List aW:=[.cells 206 [.c (.int .i64 x.1),.c (.int .i64 x.2)],.vec 206 2 a.length (oI.fn a)]
def On(l:List dh)(x:dh)(q:l.length<=4000000):Ev X 160 [oI.sl l,YC x] [] (oI.sl (qg l x)) []:=by
 refine Ev.bQ Tryz.func160 rfl λp=>?_
 refine aX [(1000002,ab)] 200 rfl av ?_;refine AK.ix 5 206 2 rfl rfl ?_;refine dE rfl av ?_;refine AK.bJ 2 (λi=>i<=l.length) (λi:Nat=>p4F l x i (qh x l i)) (λi=>p4B x (qh x l i).1) (λi=>l.length-i) 0 rfl ?_ rfl ?_ rfl (by omega) ?_
 .simp[ag.cat,ag,aR.same,aR.nil,qh]
 .simp[ag.cat,ag,aR.same,aR.nil,qh]
 intro i hi
 by_cases h:i<l.length
 .have n:=HG (x:=x) h;have k:=Cn x l i;have f:l.getD (i:Int).toNat oI.bC=l.getD i (0,0):=by rw[bt];rfl
  generalize qh x l i=a at n k;obtain⟨a,b⟩:=a;simp only at k;have j:=oI.cm a (l.getD i (0,0));have m:=oI.cm a x;have d:=oI.pq a x (l.getD i (0,0));cases b with
  |true =>
   by_cases heq:(l.getD i (0,0)).1=x.1
   .have c:qh x l (i+1)=(a,ab):=by rw[n];simp only[eL,cj,bg heq]
    refine aX [(12,ab),(38,ae)] 200 rfl ?_ (AK.aQ (i+1) rfl ?_ ?_ ?_ ?_)
    .simp only[ag,f,bx,show i206.bytes=16 from rfl,bd,bR,jg,qX,gR,dv,lq,cT,heq,fi,nK,ef,fH,kX,j7,mg,aG,aF];and_intros <;> omega
    .rw[c];simp only[ag.cat,ag,f,aG,aF]
     and_intros <;> first|exact j|exact m|exact d|exactλ_ _=>rfl|rfl|omega|simp
    .rw[c];simp only[ag.cat,ag,f,aG,aF]
     and_intros <;> first|exact j|exact m|exact d|exactλ_ _=>rfl|rfl|omega|simp
    .show i+1<=_;omega
    .omega
   .have c:qh x l (i+1)=(a++[l.getD i (0,0)],ab):=by rw[n];simp only[eL,cj,aY heq]
    refine aX [(12,ab),(38,ab)] 200 rfl ?_ (AK.aQ (i+1) rfl ?_ ?_ ?_ ?_)
    .simp only[ag,f,bx,show i206.bytes=16 from rfl,bd,bR,jg,qX,gR,dv,lq,cT,heq,fi,nK,ef,fH,kX,j7,mg,aG,aF];and_intros <;> omega
    .rw[c];simp only[ag.cat,ag,f,aG,aF]
     and_intros <;> first|exact j|exact m|exact d|exactλ_ _=>rfl|rfl|omega|simp
    .rw[c];simp only[ag.cat,ag,f,aG,aF]
     and_intros <;> first|exact j|exact m|exact d|exactλ_ _=>rfl|rfl|omega|simp
    .show i+1<=_;omega
    .omega
  |false =>
   by_cases g:x.1<=(l.getD i (0,0)).1
   .by_cases heq:(l.getD i (0,0)).1=x.1
    .have c:qh x l (i+1)=(a++[x],ab):=by rw[n];simp only[eL,bg g,bg heq];rfl
     refine aX [(12,ab),(25,ab),(38,ae)] 200 rfl ?_ (AK.aQ (i+1) rfl ?_ ?_ ?_ ?_)
     .simp only[ag,f,bx,show i206.bytes=16 from rfl,bd,bR,jg,qX,gR,dv,lq,cT,g,heq,fi,nK,ef,fH,kX,j7,mg,aG,aF];and_intros <;> omega
     .rw[c];simp only[ag.cat,ag,f,aG,aF]
      and_intros <;> first|exact j|exact m|exact d|exactλ_ _=>rfl|rfl|omega|simp
     .rw[c];simp only[ag.cat,ag,f,aG,aF]
      and_intros <;> first|exact j|exact m|exact d|exactλ_ _=>rfl|rfl|omega|simp
     .show i+1<=_;omega
     .omega
    .have c:qh x l (i+1)=(a++[x,l.getD i (0,0)],ab):=by rw[n];simp only[eL,bg g,aY heq];rfl
     refine aX [(12,ab),(25,ab),(38,ab)] 200 rfl ?_ (AK.aQ (i+1) rfl ?_ ?_ ?_ ?_)
     .simp only[ag,f,bx,show i206.bytes=16 from rfl,bd,bR,jg,qX,gR,dv,lq,cT,g,heq,fi,nK,ef,fH,kX,j7,mg,aG,aF];and_intros <;> omega
     .rw[c];simp only[ag.cat,ag,f,aG,aF]
      and_intros <;> first|exact j|exact m|exact d|exactλ_ _=>rfl|rfl|omega|simp
     .rw[c];simp only[ag.cat,ag,f,aG,aF]
      and_intros <;> first|exact j|exact m|exact d|exactλ_ _=>rfl|rfl|omega|simp
     .show i+1<=_;omega
     .omega
   .have heq:¬(l.getD i (0,0)).1=x.1:=by omega
    have c:qh x l (i+1)=(a++[l.getD i (0,0)],ae):=by rw[n];simp only[eL,aY g];rfl
    refine aX [(12,ab),(25,ae),(38,ab)] 200 rfl ?_ (AK.aQ (i+1) rfl ?_ ?_ ?_ ?_)
    .simp only[ag,f,bx,show i206.bytes=16 from rfl,bd,bR,jg,qX,gR,dv,lq,cT,g,heq,fi,nK,ef,fH,kX,j7,mg,aG,aF];and_intros <;> omega
    .rw[c];simp only[ag.cat,ag,f,aG,aF]
     and_intros <;> first|exact j|exact m|exact d|exactλ_ _=>rfl|rfl|omega|simp
    .rw[c];simp only[ag.cat,ag,f,aG,aF]
     and_intros <;> first|exact j|exact m|exact d|exactλ_ _=>rfl|rfl|omega|simp
    .show i+1<=_;omega
    .omega
 .obtain rfl:i=l.length:=by omega
  have e:=yJ x l [];have k:=Cn x l l.length;refine aX [(12,ae)] 200 rfl (by simp[ag]) (AK.leaveD rfl rfl ?_)
  have o:qh x l l.length=l.foldl (eL x) ([],ae):=by unfold qh;rw[bY]
  rw[o] at k ⊢;generalize l.foldl (eL x) ([],ae)=a at *;obtain⟨a,b⟩:=a;simp only[uU] at e k;cases b with
  |true =>
   simp only[cj] at e;subst e;refine dE rfl av (AK.bo rfl ?_);simp[ag,ag.cat,aR.same]
  |false =>
   simp only[jB,b5] at e;have j:=oI.cm a x;refine dE rfl ?_ (AK.bo rfl ?_)
   .simp only[ag,show i206.bytes=16 from rfl,aG,aF];and_intros <;> omega
   .rw[<-e];simp only[ag.cat,ag,aG,aF]
    and_intros <;> first|exact j|simp
abbrev PQ:dg:=ow (aL oI) Ta (λl x=>oI.sl (qg l x)) λl _=>[l.length<=4000000]
def Vr:dD X 160 PQ:=.qG λl x h=>On l x h
abbrev Ay(p:bw):List dh:=p.2.map λx=>(x.1,p.1)
def tj(l:List bw)(i j:Nat):List dh:=fj (l.take i)++(Ay (l.getD i (0,[]))).take j
def wR{l:List bw}{i:Nat}(h:i<l.length):fj (l.take (i+1))=fj (l.take i)++Ay (l.getD i (0,[])):=by
 rw[bu h (0,[])];simp[fj]
def Lg(l:List bw)(i:Nat):(fj (l.take i)).length<=(fj l).length:=by
 have h:fj l=fj (l.take i)++fj (l.drop i):=by
  unfold fj;rw[<-nI,j0]
 rw[h,bG];omega
def Co{l:List bw}{i j:Nat}(h:i<l.length):∃ r,fj l=tj l i j++r:=by
 have a:fj l=fj (l.take (i+1))++fj (l.drop (i+1)):=by
  unfold fj;rw[<-nI,j0]
 refine⟨(Ay (l.getD i (0,[]))).drop j++fj (l.drop (i+1)),?_⟩;rw[a,wR h,tj,ij,ij]
 congr 1
 rw[<-ij,j0]
def Lh(l:List dh)(x:dh):(qg l x).length<=l.length+1:=by
 induction l with
 |nil=>simp[qg]
 |cons y r a =>
  simp only[qg]
  grind
def yD(l:List dh):∀ a:List dh,(l.foldl qg a).length<=a.length+l.length:=by
 induction l with
 |nil=>intro a;simp
 |cons y r b=>intro a;have:=b (qg a y);have:=Lh a y;grind
def EF(l:List bw)(w:l.length<=4000000)(y:(fj l).length<=100000):Ev X 123 [cP.sl l] [] (oI.sl (indexOf l)) []:=by
 refine Ev.bQ Tryz.func123 rfl λv=>?_
 have a:bD X [(159,KZ),(160,PQ)]:=.cons RS (.cons Vr .nil);refine aE a [] 200 rfl av ?_;refine AK.bJ 0 (λi=>i<=l.length/\(fj (l.take i)).all k7=ab) (λi:Nat=>[(0,cP.sl l),(3,oI.sl ((fj (l.take i)).foldl qg [])),(4,dI i)]) (λ_=>[]) (λi=>l.length-i) 0 rfl ?_ rfl ?_ rfl ⟨by omega,rfl⟩ ?_
 .simp[ag.cat,ag,aR.same,aR.nil,fj]
 .simp[ag]
 rintro i ⟨hi,c⟩
 by_cases h:i<l.length
 .have e:l.getD (i:Int).toNat cP.bC=l.getD i (0,[]):=by rw[bt];rfl
  have m:=wR h;refine aE a [(11,ab)] 200 rfl (by simp only[ag,bd];omega) ?_
  refine AK.bJ 0 (λj=>j<=(l.getD i (0,[])).2.length/\(tj l i j).all k7=ab) (λj:Nat=>[(0,cP.sl l),(3,oI.sl ((tj l i j).foldl qg [])),(4,dI i),(5,dI j)]) (λ_=>[]) (λj=>(l.getD i (0,[])).2.length-j) 0 rfl ?_ rfl ?_ rfl ⟨by omega,by simpa[tj] using c⟩ ?_
  .simp[ag.cat,ag,aR.same,aR.nil,tj]
  .simp[ag]
  rintro j ⟨x,o⟩;obtain⟨r,s⟩:=Co (l:=l) (j:=j) h;have g:(tj l i j).length<=100000:=by grind
  have f:=yD (tj l i j) [];simp only[gA] at f;have u:(l.getD i (0,[])).2.length<=100000:=by
   have:=Lg l (i+1)
   grind
  by_cases t:j<(l.getD i (0,[])).2.length
  .have b:(l.getD i (0,[])).2.getD (j:Int).toNat dx.bC=(l.getD i (0,[])).2.getD j (0,[]):=by rw[bt];rfl
   have k:tj l i (j+1)=tj l i j++[(((l.getD i (0,[])).2.getD j (0,[])).1,(l.getD i (0,[])).1)]:=by
    unfold tj;rw[ij]
    congr 1
    rw[bu (by simpa using t) (0,0)]
    grind
   cases d:k7 (((l.getD i (0,[])).2.getD j (0,[])).1,(l.getD i (0,[])).1) with
   |false =>
    have q:indexOf l=[]:=by
     obtain⟨r,s⟩:=Co (l:=l) (j:=j+1) h;unfold indexOf;rw[aY]
     grind
    refine aE a [(21,ab),(40,ae)] 200 rfl ?_ (AK.ee (bZ.zero rfl ?_))
    .simp only[ag,e,b,d,bd,aG,aF];and_intros <;> omega
    .rw[q];simp[ag,ag.cat,aR.nil]
   |true =>
    refine aE a [(21,ab),(40,ab)] 200 rfl ?_ (AK.aQ (j+1) rfl ?_ ?_ ?_ ?_)
    .simp only[ag,e,b,d,bx,oI.list_fn,bd,aG,aF];and_intros <;> first|exact oI.aH _|omega
    .rw[k];simp only[jC,ji,List.foldl_nil,ag.cat,ag,e,b,oI.list_fn,aG,aF]
     and_intros <;> first|exactλ_ _=>rfl|rfl|omega
    .simp[ag]
    .grind
    .omega
  .have p:j=(l.getD i (0,[])).2.length:=by omega
   have n:tj l i j=fj (l.take (i+1)):=by
    rw[m,tj]
    congr 1
    apply qT
    rw[kY];omega
   refine aE a [(21,ae)] 200 rfl ?_ (AK.leaveD rfl rfl ?_)
   .simp only[ag,e,bR];and_intros <;> omega
   refine aE a [] 200 rfl ?_ (AK.aQ (i+1) rfl ?_ ?_ ?_ ?_)
   .simp only[ag,bx];omega
   .rw[n];simp[ag.cat,ag,aR.same]
   .simp[ag]
   .grind
   .omega
 .obtain rfl:i=l.length:=by omega
  rw[bY] at c ⊢;refine aE a [(11,ae)] 200 rfl (by simp[ag]) (AK.leaveD rfl rfl ?_)
  refine aE a [] 200 rfl av (AK.bo rfl ?_);simp[ag,ag.cat,aR.same,indexOf,c]
abbrev Lb:dg:=kN (aL cP) (λl=>oI.sl (indexOf l)) λl=>[l.length<=4000000,(fj l).length<=100000]
def R2:dD X 123 Lb:=.oH λl h=>EF l h.1 h.2
abbrev Az:dg:=ow aI aS (λk p=>dI (iX k p)) λk p=>[cA k=ab,bL p=ab]
abbrev Li:dg:=kN aS (λp=>dS (iE p)) λp=>[bL p=ab]
def PR:dD X 162 Li:=.oH λp h=>Oh p h
def Lj(l:List cz)(x:cz):(sh l x).length=l.length+1:=by
 induction l with
 |nil=>simp[sh]
 |cons y r a=>simp only[sh];split <;> simp[a]
def R4(k:Int)(ps:List Bs):List cz:=ps.foldl (λl p=>sh l (iX k p,iE p)) []
def Gb(k:Int)(ps:List Bs):(R4 k ps).length=ps.length:=by
 have h:∀ (ps:List Bs) (a:List cz),(ps.foldl (λl p=>sh l (iX k p,iE p)) a).length=a.length+ps.length:=by
  intro ps
  induction ps with
  |nil=>intro a;simp
  |cons p r b=>intro a;rw[ji,b,Lj,eQ];omega
 have:=h ps [];rw[gA,br] at this;exact this
def Lk{k:Int}{ps:List Bs}{i:Nat}(h:i<ps.length):R4 k (ps.take (i+1))=sh (R4 k (ps.take i)) (iX k (ps.getD i []),iE (ps.getD i [])):=by
 unfold R4;rw[bu h [],jC];rfl
abbrev pkB(no:Int)(l:List cz):aW:=.cells 55 [.c (.int .i64 no),.c (.sl ae 2 l.length (dx.fn l))]
def K8(no k:Int)(ps:List Bs)(l:cA k=ab)(m:∀ p∈ps,bL p=ab)(q:ps.length<=4000000):Ev X 124 [dI no,dI k,cS.sl ps] [] (vf (kQ no k ps)) []:=by
 refine Ev.iV tok Tryz.func124 rfl rfl rfl λo=>?_
 have a:bD X [(118,Az),(162,Li),(161,PO)]:=.cons Au (.cons PR (.cons Vq .nil));refine aE a [] 200 rfl av ?_;refine AK.bJ 2 (λi=>i<=ps.length) (λi:Nat=>[(1,dI k),(2,cS.sl ps),(6,.e (.one (.ptr 0 0))),(7,.e (.one (.ptr 1 0))),(8,dI i)]) (λi=>[.cells 55 [.c (.int .i64 0),.c (.sl ab 0 0 λ_=>[])],pkB no (R4 k (ps.take i))]) (λi=>ps.length-i) 0 rfl ?_ rfl ?_ rfl (by omega) ?_
 .simp[ag.cat,ag,aR.same]
 .simp[ag.cat,ag,aR.same,aR.nil,R4]
 intro i hi
 by_cases h:i<ps.length
 .have f:ps.getD (i:Int).toNat cS.bC=ps.getD i []:=by rw[bt];rfl
  have d:bL (ps.getD i [])=ab:=m _ (by rw[ai,bl h];exact nH h)
  have n:=Lk (k:=k) h;have b:=Gb k (ps.take i);rw[List.length_take] at b;refine aE a [(15,ab)] 200 rfl ?_ (AK.aQ (i+1) rfl ?_ ?_ ?_ ?_)
  .simp only[ag,f,l,d,bx,dx.list_fn,bd,aG,aF];and_intros <;> first|exact dx.aH _|omega
  .simp[ag.cat,ag,aR.same]
  .rw[n];simp only[ag.cat,ag,f,dx.list_fn,aG,aF]
   and_intros <;> first|exactλ_ _=>rfl|rfl|omega
  .show i+1<=_;omega
  .omega
 .obtain rfl:i=ps.length:=by omega
  rw[bY];refine aE a [(15,ae)] 200 rfl (by simp[ag]) (AK.leaveD rfl rfl ?_)
  refine aE a [] 200 rfl av ?_;refine AK.dk () [] rfl rfl rfl rfl rfl rfl rfl rfl ?_ rfl rfl rfl rfl (λj g=>absurd g (by simp))
  simp[ag,ag.cat,aR.same,kQ,R4]
end
end Go.AM.R1
namespace Go.AM
def Fits.Lv{args:List D}{σ:List aW}(h:Fits args σ)(k:Nat){cs:List A}(b:args[k]?=aa (.e (.agg cs)))(j:Nat){t:Bool}{q n:Nat}{es:Nat->List C}(hj:cs[j]?=aa (A.c (.sl t q n es))):n<=9223372036854775807:=by
 obtain⟨s,v,d⟩:=h.at b;obtain⟨vs,_,h2⟩:=d;obtain⟨u,_,a⟩:=dG.get h2 hj;cases a <;> omega
namespace R1
def dO{n i:Nat}{p:Nat->Bool}(hi:i<n)(h:p i=ae):(bh n).all p=ae:=by
 cases a:(bh n).all p with
 |false=>rfl
 |true=>rw[b6.1 a i hi] at h;cases h
def fe{i:Nat}{p:Nat->Bool}(a:∀ j,j<i->p j=ab)(h:p i=ab):∀ j,j<i+1->p j=ab:=λj b=>by
 rcases qR.1 b with b|rfl
 .exact a j b
 .exact h
end R1
end Go.AM
namespace Go.AM.R1
section
open Go.Proofs
variable {X:Cx ah}
def HQ(p:Bs):Ev X 201 [dS p] [] (dB (bL p)) []:=by
 refine Ev.bQ Tryz.func201 rfl λb=>?_
 have a:bD X [(18,pn),(105,Ou)]:=.cons qf (.cons t105 .nil)
 by_cases h:1<=p.length/\p.length<=8
 .refine aE a [(6,ab)] 100 rfl ?_ (AK.bo rfl ?_)
  .simp[ag];omega
  .simp[ag,bL,h.1,h.2]
 .refine aE a [(6,ae)] 100 rfl ?_ (AK.bo rfl ?_)
  .simp[ag];omega
  .have:bL p=ae:=by simp only[bL,<-Bool.decide_and,dY h,pF]
   simp[ag,this]
abbrev Gd:dg:=kN aS (λp=>dB (bL p)) λ_=>[]
def Ov:dD X 201 Gd:=.oH λp _=>HQ p
def HR(p:Bs):Ev X 152 [dS p] [] (dS (iE p)) []:=by
 refine Ev.bQ Tryz.func152 rfl λb=>?_
 have a:bD X [(201,Gd),(162,Li)]:=.cons Ov (.cons PR .nil);cases h:bL p with
 |true=>exact aE a [(5,ae)] 100 rfl (by simp[ag,h]) (AK.bo rfl (by simp[ag]))
 |false=>exact aE a [(5,ab)] 100 rfl (by simp[ag,h]) (AK.bo rfl (by simp[ag,iE,h]))
abbrev Ge:dg:=kN aS (λp=>dS (iE p)) λ_=>[]
def Ow:dD X 152 Ge:=.oH λp _=>HR p
def HS(p:Bs):(iE p).length<=8:=by
 unfold iE;split
 .rename_i h
  simp only[bL,bO,bd] at h;have:=wM h.1.1 h.1.2
  grind
 .simp
def Cu(b:Bs):Ev X 117 [dS b] [] (Ac (fa b)) []:=by
 refine Ev.bQ Tryz.func117 rfl λt=>?_
 have r:=t.str 0 rfl;have i:bD X [(152,Ge)]:=.cons Ow .nil;refine bm rfl av ?_;have fin:∀ n,n<=b.length->strip (b.take n)=strip b->(n=0∨strip (b.take n)=b.take n)->b.take n=strip b:=λn c h f=>by
  rcases f with rfl|f
  .simpa[strip] using h
  .rw[<-f,h]
 have rest:∀ n,n<=b.length->b.take n=strip b->fa b=if b.length<=8/\iE (strip b)=b/\n≠0 then aa (b.take n) else af:=λn c h=>by
  have u:=HS (strip b);have k:n=0↔strip b=[]:=by
   rw[<-h]
   constructor
   .rintro rfl;rfl
   .intro a;rcases List.take_eq_nil_iff.1 a with a|a
    .exact a
    .rw[a] at c;simpa using c
  unfold fa;rw[h]
  by_cases a:iE (strip b)=b
  .by_cases p:bL (strip b)=ab
   .have:n≠0:=λq=>by rw[k.1 q] at p;cases p
    grind
   .have q:n=0:=k.2 (by rw[iE,aY p] at a;rw[<-a];rfl)
    grind
  grind
 refine AK.kM (S2:=Nat) 0 rfl rfl (λn=>n<=b.length/\b.take n=strip b) (λn=>[(0,dS b),(4,dI n)]) (λ_=>[]) 0 (λn=>n<=b.length/\strip (b.take n)=strip b) (λn:Nat=>[(0,dS b),(4,dI n)]) (λ_=>[]) (λn=>n) b.length rfl (by simp[ag.cat,ag]) rfl av rfl ⟨by omega,by simp⟩ ?_ ?_
 .rintro out n ⟨c,d⟩;rcases n with _|n
  .refine aX [(9,ae),(15,ae)] 100 rfl (by simp[ag]) (AK.leaveD rfl rfl ?_)
   exact out 0 ⟨c,fin 0 c d (.inl rfl)⟩ rfl (by simp[ag.cat,ag]) rfl av
  have k:=wz (s:=b) (n:=n) (by omega)
  have g:((n:Int)+1-1).toNat=n:=by omega
  by_cases f:b.getD n 0=46
  .refine aX [(9,ab),(15,ab)] 100 rfl ?_ (AK.aQ n rfl ?_ av ⟨by omega,?_⟩ (by omega))
   .have a:cy b n=46:=by unfold cy;rw[f];rfl
    simp[-ai,ag,cu,g,a,bx];omega
   .simp[ag.cat,ag]
   grind
  .refine aX [(9,ab),(15,ae)] 100 rfl ?_ (AK.leaveD rfl rfl ?_)
   .have a:cy b n≠46:=by
     unfold cy;intro e;exact f (pD.1 (by show _=46;omega))
    simp[-ai,ag,cu,g,a,bx];omega
   .exact out (n+1) ⟨c,fin _ c d (.inr (by rw[k,aY f]))⟩ rfl (by simp[ag.cat,ag]) rfl av
 rintro n ⟨c,o⟩;have l:=rest n c o;have m:rP b af (aa (n:Int))=strip b:=o▸rfl;have hi:((b.length:Int)<=8)↔b.length<=8:=by omega
 by_cases j:b.length<=8
 .by_cases c2:iE (strip b)=b
  .by_cases c3:n=0
   .refine aE i [(21,ae),(29,ae),(32,ab)] 100 rfl ?_ (AK.bo rfl ?_)
    .subst c3;simp only[ag,m,c2];simp;omega
    .simp[ag,ag.cat,l,c3]
   .refine aE i [(21,ae),(29,ae),(32,ae)] 100 rfl ?_ (AK.bo rfl ?_)
    .simp[ag,m,hi,j,c2,c3,c]
    .simp[ag,ag.cat,l,m,o,j,c2,c3]
  .refine aE i [(21,ae),(29,ab),(32,ab)] 100 rfl ?_ (AK.bo rfl ?_)
   .simp[ag,m,hi,j,c2,c]
   .simp[ag,ag.cat,l,c2]
 .refine aE i [(21,ab),(29,ab),(32,ab)] 100 rfl ?_ (AK.bo rfl ?_)
  .simp[ag];omega
  .simp[ag,ag.cat,l,j]
abbrev tn:dg:=kN aS (λb=>Ac (fa b)) λ_=>[]
def yO:dD X 117 tn:=.oH λb _=>Cu b
def HT(k:Int)(x:cz)(c:cA k=ab):Ev X 101 [dI k,Yb x] [] (dB (right k x)) []:=by
 refine Ev.bQ Tryz.func101 rfl λd=>?_
 have b:bD X [(117,tn),(118,Az)]:=.cons yO (.cons Au .nil);cases a:fa x.2 with
 |none=>exact aE b [(14,ae)] 100 rfl (by simp[ag,a]) (AK.bo rfl (by simp[ag,right,a]))
 |some p=>exact aE b [(14,ab)] 100 rfl (by simp[ag,a,c,wC a]) (AK.bo rfl (by simp[ag,right,a]))
abbrev AD:dg:=ow aI S9 (λk x=>dB (right k x)) λk _=>[cA k=ab]
def Gf:dD X 101 AD:=.qG λk x h=>HT k x h
def Ox(k:Int):Ev X 57 [dI k] [] (dB (cA k)) []:=by
 refine Ev.bQ Tryz.func57 rfl λb=>?_
 have a:bD X [(18,pn)]:=.cons qf .nil;exact aE a [] 100 rfl av (AK.bo rfl (by simp[ag,cA]))
abbrev yP:dg:=kN aI (λk=>dB (cA k)) λ_=>[]
def Cv:dD X 57 yP:=.oH λk _=>Ox k
abbrev Oy(p:bw):aW:=.cells 55 [.c (.int .i64 p.1),.c (sP p)]
def Cw(k:Int)(p:bw) (n:Int):Ev X 154 [dI k,vf p,dI n] [] (Ac (dW k p n)) []:=by
 refine Ev.bQ Tryz.func154 rfl λo=>?_
 have a:bD X [(57,yP),(101,AD),(117,tn)]:=.cons Cv (.cons Gf (.cons yO .nil));cases f:cA k with
 |false =>
  refine aE a [(11,ab)] 100 rfl (by simp[ag,f]) (AK.bo rfl ?_)
  have:dW k p n=af:=by
   unfold dW chunk
   grind
  simp[ag,ag.cat,this]
 |true =>
 have m:=o.Lv 1 rfl 1 rfl;refine aE a [(11,ae)] 100 rfl (by simp[ag,f]) ?_
 refine AK.bJ 1 (λi=>i<=p.2.length/\p.2.find? (λx=>x.1==n)=(p.2.drop i).find? (λx=>x.1==n)) (λi:Nat=>[(0,dI k),(4,.e (.one (.ptr 0 0))),(2,dI n),(8,dI i)]) (λ_=>[Oy p]) (λi=>p.2.length-i) 0 rfl (by simp[ag.cat,ag]) rfl (by simp[ag.cat,ag,aR.same]) rfl ⟨by omega,rfl⟩ ?_
 rintro i ⟨hi,d⟩
 by_cases h:i<p.2.length
 .have g:p.2.getD i dx.bC=fN p i:=rfl;have l:p.2.drop i=fN p i::p.2.drop (i+1):=by rw[y9 h,fN,ai,bl h];rfl
  rw[l,List.find?_cons] at d
  by_cases c:(fN p i).1=n
  .rw[show ((fN p i).1==n)=ab by simpa using c] at d
   cases j:right k (fN p i) with
   |false =>
    have b:right k (n,(fN p i).2)=ae:=c▸j;refine aE a [(16,ab),(26,ab),(34,ab)] 100 rfl ?_ (AK.ee (bZ.zero rfl ?_))
    .simp[-ai,ag,g,c,b,f,h]
    .have e:dW k p n=af:=by
      have:=qH (k:=k) (x:=fN p i) f;rw[j] at this;simp only[dW,d];simpa using this
     simp[ag,ag.cat,e]
   |true =>
    have b:right k (n,(fN p i).2)=ab:=c▸j;refine aE a [(16,ab),(26,ab),(34,ae)] 100 rfl ?_ (AK.ee (bZ.zero rfl ?_))
    .simp[-ai,ag,g,c,b,f,h]
    .have e:dW k p n=fa (fN p i).2:=by
      simp only[dW,d,chunk];unfold right at j
      grind
     simp[-ai,ag,ag.cat,e,g]
  .rw[show ((fN p i).1==n)=ae by simpa using c] at d
   refine aE a [(16,ab),(26,ae)] 100 rfl ?_ (AK.aQ (i+1) rfl (by simp[ag.cat,ag]) (by simp[ag.cat,ag,aR.same]) ⟨h,d⟩ (by omega))
   simp[-ai,ag,g,c,bx,h];omega
 .obtain rfl:i=p.2.length:=by omega
  refine aE a [(16,ae)] 100 rfl (by simp[ag]) (AK.leaveD rfl rfl ?_)
  refine aE a [] 100 rfl av (AK.bo rfl ?_);simp[ag,ag.cat,dW,d]
abbrev Gg:dg:=Di aI (B7 dx) aI (λk p n=>Ac (dW k p n)) λ_ _ _=>[]
def Oz:dD X 154 Gg:=.IN λk p n _=>Cw k p n
def pv(k:Int)(p:bw):jq k p=(decide (1<=p.1/\p.1<=99)&&cA k&&decide (1<=p.2.length/\p.2.length<=4)&&(bh p.2.length).all (iF k p)):=by
 rw[tc]
 grind
def HU{k:Int}{p:bw}{i:Nat}(a:i≠0):iF k p i=(right k (fN p i)&&decide ((fN p (i-1)).1<(fN p i).1)):=by
 unfold iF
 grind
def EK(k:Int)(p:bw):Ev X 77 [dI k,vf p] [] (dB (jq k p)) []:=by
 refine Ev.bQ Tryz.func77 rfl λq=>?_
 have b:bD X [(18,pn),(57,yP),(101,AD)]:=.cons qf (.cons Cv (.cons Gf .nil));have o:=q.Lv 1 rfl 1 rfl;rw[pv]
 by_cases f:1<=p.1/\p.1<=99
 rotate_left
 .exact aE b [(10,ab),(14,ab),(21,ab)] 100 rfl (by simp[ag];omega) (AK.bo rfl (by simp[ag,dY f]))
 cases d:cA k
 .exact aE b [(10,ae),(14,ab),(21,ab)] 100 rfl (by simp[ag,d,f]) (AK.bo rfl (by simp[ag]))
 by_cases c3:1<=p.2.length/\p.2.length<=4
 rotate_left
 .exact aE b [(10,ae),(14,ae),(21,ab)] 100 rfl (by simp[ag,d,f];omega) (AK.bo rfl (by simp[ag,dY c3]))
 refine aE b [(10,ae),(14,ae),(21,ae)] 100 rfl (by simp[ag,d,f];omega) ?_
 rw[ck f,ck c3,dF,dF,dF];refine AK.bJ 1 (λi=>i<=p.2.length/\∀ j,j<i->iF k p j=ab) (λi:Nat=>[(0,dI k),(3,.e (.one (.ptr 0 0))),(5,dI i)]) (λ_=>[Oy p]) (λi=>p.2.length-i) 0 rfl (by simp[ag.cat,ag]) rfl (by simp[ag.cat,ag,aR.same]) rfl ⟨by omega,by omega⟩ ?_
 rintro i ⟨hi,a⟩
 by_cases h:i<p.2.length
 .have l:p.2.getD i dx.bC=fN p i:=rfl;cases c:right k (fN p i) with
  |false =>
   refine aE b [(26,ab),(37,ab),(56,ab)] 100 rfl ?_ (AK.ee (bZ.zero rfl ?_))
   .simp[-ai,ag,l,c,d,h]
   .rw[dO h (by simp only[iF,c,pF])];simp[ag]
  |true =>
   by_cases n:i=0
   .subst n;refine aE b [(26,ab),(37,ae),(40,ae),(56,ae)] 100 rfl ?_ (AK.aQ 1 rfl (by simp[ag.cat,ag]) (by simp[ag.cat,ag,aR.same]) ⟨h,fe a (by simp only[iF,c,dF];rfl)⟩ (by omega))
    simp[-ai,ag,l,c,d,h,bx]
   have g:p.2.getD (i-1) dx.bC=fN p (i-1):=rfl;have r:=HU (k:=k) (p:=p) n
   by_cases m:(fN p (i-1)).1<(fN p i).1
   .refine aE b [(26,ab),(37,ae),(40,ab),(54,ae),(56,ae)] 100 rfl ?_ (AK.aQ (i+1) rfl (by simp[ag.cat,ag]) (by simp[ag.cat,ag,aR.same]) ⟨h,fe a (by rw[r,c,ck m];rfl)⟩ (by omega))
    simp[-ai,ag,l,g,c,d,h,m,bx];omega
   .refine aE b [(26,ab),(37,ae),(40,ab),(54,ab),(56,ab)] 100 rfl ?_ (AK.ee (bZ.zero rfl ?_))
    .simp[-ai,ag,l,g,c,d,h,bx];omega
    .rw[dO h (by grind)];simp[ag]
 .obtain rfl:i=p.2.length:=by omega
  refine aE b [(26,ae)] 100 rfl (by simp[ag]) (AK.leaveD rfl rfl ?_)
  exact aE b [] 100 rfl av (AK.bo rfl (by simp[ag,b6.2 a]))
abbrev Cy:dg:=ow aI (B7 dx) (λk p=>dB (jq k p)) λ_ _=>[]
def Lw:dD X 77 Cy:=.qG λk p _=>EK k p
def gO{α:Type}{l:List α}{i:Nat}{d:α}(h:i<l.length):l.getD i d∈l:=by
 grind
def OB{l:List Int}{n:Int}:l.contains n=!(bh l.length).all λi=>!(l.getD i 0==n):=by
 rw[nL,jg,<-mc,b6,zd]
 constructor
 .intro h a;obtain⟨i,hi,rfl⟩:=lH.1 h
  grind
 grind
def OC(l:List Int) (n:Int):Ev X 38 [cI.sl l,dI n] [] (dB (l.contains n)) []:=by
 refine Ev.bQ Tryz.func38 rfl λe=>?_
 have d:=e.sl 0 rfl;refine bm rfl av ?_;rw[OB];refine AK.jV (λi=>i<=l.length/\∀ j,j<i->(!(l.getD j 0==n))=ab) (λi:Nat=>[(0,cI.sl l),(1,dI n),(5,dI i)]) (λ_=>[]) (λi=>l.length-i) 0 rfl (by simp[ag.cat,ag,aR.same]) rfl av ⟨by omega,by omega⟩ ?_
 rintro i ⟨hi,a⟩
 by_cases h:i<l.length
 .have c:l.getD i cI.bC=l.getD i 0:=rfl
  by_cases b:l.getD i 0=n
  .refine aX [(9,ab),(17,ab)] 100 rfl ?_ (AK.hY (bZ.zero rfl ?_))
   .simp[-ai,ag,c,b,h]
   .rw[dO h (by simpa using b)];simp[ag]
  .refine aX [(9,ab),(17,ae)] 100 rfl ?_ (AK.gm (i+1) rfl (by simp[ag.cat,ag,aR.same]) rfl av ⟨h,fe a (by simpa using b)⟩ (by omega))
   simp[-ai,ag,c,b,h,bx];omega
 .obtain rfl:i=l.length:=by omega
  refine aX [(9,ae)] 100 rfl (by simp[ag]) (AK.leave rfl rfl ?_)
  exact bm rfl av (AK.bo rfl (by rw[b6.2 a];simp[ag]))
abbrev Cz:dg:=ow (aL cI) aI (λl n=>dB (l.contains n)) λ_ _=>[]
def Gh:dD X 38 Cz:=.qG λl n _=>OC l n
def EL(k:Int)(ps:List bw) (n:Int):Ev X 119 [dI k,cP.sl ps,dI n] [] (Ac (du k ps n)) []:=by
 refine Ev.bQ Tryz.func119 rfl λg=>?_
 have f:=g.sl 1 rfl;have c:bD X [(154,Gg)]:=.cons Oz .nil;refine aE c [] 100 rfl av ?_;refine AK.jV (λi=>i<=ps.length/\du k ps n=du k (ps.drop i) n) (λi:Nat=>[(0,dI k),(1,cP.sl ps),(2,dI n),(8,dI i)]) (λ_=>[]) (λi=>ps.length-i) 0 rfl (by simp[ag.cat,ag,aR.same]) rfl av ⟨by omega,rfl⟩ ?_
 rintro i ⟨hi,a⟩
 by_cases h:i<ps.length
 .have e:ps.drop i=ps.getD i (0,[])::ps.drop (i+1):=by rw[y9 h,ai,bl h];rfl
  have d:((ps.getD i cP.bC).1,dx.list (ps.getD i cP.bC).2.length (dx.fn (ps.getD i cP.bC).2))=ps.getD i (0,[]):=by rw[dx.list_fn];rfl
  rw[e,show du k (ps.getD i (0,[])::ps.drop (i+1)) n=_ from List.findSome?_cons] at a
  cases b:dW k (ps.getD i (0,[])) n with
  |some q =>
   rw[b] at a;refine aE c [(14,ab),(27,ab)] 100 rfl ?_ (AK.hY (bZ.zero rfl ?_))
   .simp[-ai,ag,d,b,h,dx.aH]
   .simp[-ai,ag,ag.cat,d,b,a]
  |none =>
   rw[b] at a;refine aE c [(14,ab),(27,ae)] 100 rfl ?_ (AK.gm (i+1) rfl (by simp[ag.cat,ag,aR.same]) rfl av ⟨h,a⟩ (by omega))
   simp[-ai,ag,d,b,h,bx,dx.aH];omega
 .obtain rfl:i=ps.length:=by omega
  refine aX [(14,ae)] 100 rfl (by simp[ag]) (AK.leave rfl rfl ?_)
  exact bm rfl av (AK.bo rfl (by rw[a,q8];simp[ag,ag.cat,du]))
abbrev CB:dg:=Di aI (aL cP) aI (λk ps n=>Ac (du k ps n)) λ_ _ _=>[]
def Lx:dD X 119 CB:=.IN λk ps n _=>EL k ps n
def Ly(a b:List Bs):Ev X 155 [cS.sl a,cS.sl b] [] (dB (a==b)) []:=by
 refine Ev.bQ Tryz.func155 rfl λk=>?_
 have g:=k.sl 0 rfl
 by_cases d:a.length=b.length
 rotate_left
 .have:(a==b)=ae:=dv.2 (by rintro rfl;exact d rfl)
  exact aX [(10,ab)] 100 rfl (by simp[ag];omega) (AK.bo rfl (by simp[ag,this]))
 refine aX [(10,ae)] 100 rfl (by simp[ag];omega) ?_
 refine AK.jV (λi=>i<=a.length/\∀ j,j<i->a.getD j []=b.getD j []) (λi:Nat=>[(0,cS.sl a),(1,cS.sl b),(5,dI i)]) (λ_=>[]) (λi=>a.length-i) 0 rfl (by simp[ag.cat,ag,aR.same]) rfl av ⟨by omega,by omega⟩ ?_
 rintro i ⟨hi,f⟩
 by_cases h:i<a.length
 .have e:∀ l:List Bs,l.getD i cS.bC=l.getD i []:=λ_=>rfl
  by_cases c:a.getD i []=b.getD i []
  .refine aX [(14,ab),(25,ae)] 100 rfl ?_ (AK.gm (i+1) rfl (by simp[ag.cat,ag,aR.same]) rfl av ⟨h,λj m=>?_⟩ (by omega))
   .simp[-ai,ag,e,c,bx];omega
   grind
  .refine aX [(14,ab),(25,ab)] 100 rfl ?_ (AK.hY (bZ.zero rfl ?_))
   .simp[-ai,ag,e,c];omega
   .have:(a==b)=ae:=dv.2 (by rintro rfl;exact c rfl)
    simp[ag,this]
 .obtain rfl:i=a.length:=by omega
  have:a=b:=pC d λj c n=>by grind
  refine aX [(14,ae)] 100 rfl (by simp[ag]) (AK.leave rfl rfl ?_)
  exact bm rfl av (AK.bo rfl (by simp[ag,this]))
def Sc:dD X 155 NZ:=.qG λa b _=>Ly a b
def ub(t:Bs):∀ k f p,p∈fb t k f->p.length<=8
 |0,_,p,h=>by simp[fb] at h
 |k+1,f,p,h=>by
  simp only[fb] at h;split at h
  .rename_i a
   rcases eY.1 h with rfl|h
   .have:=nt t f a
    grind
   .exact ub t k _ p h
  .cases h
def AE{l:List Bs}{p:Bs}(h:p∈l)(b:8<p.length):fM l=af:=by
 unfold fM;rw[aY];intro a;simp only[bO,gR] at a;have:=ub l.flatten l.flatten.length 0 p (by rw[show fb l.flatten l.flatten.length 0=l from a.2];exact h)
 omega
def uE(l:List Bs)(i:Nat):(l.take i).flatten.length<=l.flatten.length:=by
 have:l.flatten=(l.take i).flatten++(l.drop i).flatten:=by rw[<-zi,j0]
 rw[this,bG];omega
def EM{l:List Bs}{i:Nat}(h:40<(l.take i).flatten.length):fM l=af:=by
 have:=uE l i;unfold fM;rw[aY];intro a;simp only[bO,dN,bd] at a;omega
def Lz(l:List Bs):Ev X 120 [cS.sl l] [] (Ac (fM l)) []:=by
 refine Ev.bQ Tryz.func120 rfl λm=>?_
 have k:=m.sl 0 rfl;have a:bD X [(85,Wu),(156,F8),(155,NZ)]:=.cons t85 (.cons K5 (.cons Sc .nil));refine aE a [] 100 rfl av ?_;refine AK.jV (λi=>i<=l.length/\(l.take i).flatten.length<=48) (λi:Nat=>[(0,cS.sl l),(4,dS (l.take i).flatten),(5,dI i)]) (λ_=>[]) (λi=>l.length-i) 0 rfl (by simp[ag.cat,ag,aR.same]) rfl av ⟨by omega,by simp⟩ ?_
 rintro i ⟨hi,f⟩
 by_cases h:i<l.length
 .have e:l.getD i cS.bC=l.getD i []:=rfl;have g:(l.take (i+1)).flatten=(l.take i).flatten++l.getD i []:=by rw[bu h []];simp
  by_cases b:(l.getD i []).length<=8
  .by_cases c:(l.take i).flatten.length<=40
   .refine aE a [(9,ab),(18,ae),(22,ae)] 100 rfl ?_ (AK.gm (i+1) rfl ?_ rfl av ⟨h,by rw[g,bG];omega⟩ (by omega))
    .simp[-ai,-List.length_flatten,ag,e,bx];omega
    .simp only[ag.cat,ag,g,aG,aF];exact⟨aR.same,rfl,rfl⟩
   .refine aE a [(9,ab),(18,ae),(22,ab)] 100 rfl ?_ (AK.hY (bZ.zero rfl ?_))
    .simp[-ai,-List.length_flatten,ag,e];omega
    .simp[ag,ag.cat,EM (l:=l) (i:=i) (by omega)]
  .refine aE a [(9,ab),(18,ab),(22,ab)] 100 rfl ?_ (AK.hY (bZ.zero rfl ?_))
   .simp[-ai,ag,e];omega
   .simp[ag,ag.cat,AE (gO (d:=[]) h) (by omega)]
 .obtain rfl:i=l.length:=by omega
  rw[bY] at f ⊢;refine aE a [(9,ae)] 100 rfl (by simp[ag]) (AK.leave rfl rfl ?_)
  have el:=cS.list_fn l;cases b:dN l.flatten with
  |false=>exact aE a [(32,ab),(38,ab)] 100 rfl (by simp[ag,b]) (AK.bo rfl (by simp[ag,ag.cat,fM,b]))
  |true =>
   have j:b8 l.flatten=ab:=by simp only[dN,bO] at b;exact b.2
   cases c:(pieces l.flatten==l) with
   |false =>
    refine aE a [(32,ae),(38,ab)] 100 rfl ?_ (AK.bo rfl (by simp[ag,ag.cat,fM,c]))
    simp[-List.length_flatten,ag,b,j,el,cS.list_fn,cS.aH,by simpa using c];omega
   |true =>
    refine aE a [(32,ae),(38,ae)] 100 rfl ?_ (AK.bo rfl (by simp[ag,ag.cat,fM,b,c]))
    simp[-List.length_flatten,ag,b,j,el,cS.list_fn,cS.aH,by simpa using c];omega
abbrev LA:dg:=kN (aL cS) (λl=>Ac (fM l)) λ_=>[]
def Sd:dD X 120 LA:=.oH λl _=>Lz l
abbrev Wv(s:cN):aW:=.cells 59 [.c (.int .i64 s.1),.c (.sl ae 2 s.2.length (cL.fn s.2))]
abbrev IS(k:Int)(ps:List bw)(ns:List Int):List Bs:=ns.map λn=>(du k ps n).getD []
def OD{k:Int}{ps:List bw}{ns:List Int}{j:Nat}(h:j<ns.length):IS k ps (ns.take (j+1))=IS k ps (ns.take j)++[(du k ps (ns.getD j 0)).getD []]:=by
 rw[bu h 0,IS,me];rfl
def CC{k:Int}{ps:List bw}{ns:List Int}{j:Nat}(h:j<ns.length)(a:du k ps (ns.getD j 0)=af):eg k ps ns=af:=by
 unfold eg;rw[aY]
 grind
def AF{k:Int}{ps:List bw}{ns:List Int}(h:∀ j,j<ns.length->(du k ps (ns.getD j 0)).isSome=ab):eg k ps ns=aa (IS k ps ns):=by
 unfold eg;rw[bg];refine List.all_eq_true.2 λx a=>?_
 obtain⟨j,b,rfl⟩:=lH.1 a
 grind
def AG(k:Int)(s:cN)(ps:List bw)(K:s.2.length<=4000000)(H:∀ x∈s.2,x.2.length<=4000000) :
  Ev X 102 [dI k,Ca s,cP.sl ps] [] (Rv ((cG k s ps).getD []) (cG k s ps).isSome) []:=by
 refine Ev.bQ Tryz.func102 rfl λJ=>?_
 have a:bD X [(57,yP),(119,CB),(120,LA),(58,Te)]:=.cons Cv (.cons Lx (.cons Sd (.cons t58 .nil)));cases v:cA k with
 |false =>
  refine aE a [(19,ab)] 100 rfl ?_ (AK.bo rfl ?_)
  .simp[ag,v]
  .simp[ag,ag.cat,cG,v,aR.nil]
 |true =>
 refine aE a [(19,ae),(1000004,ab)] 100 rfl (by simp[ag,v]) ?_
 refine AK.ix 8 129 2 rfl rfl ?_;refine aE a [] 100 rfl av ?_;refine AK.bJ 2 (λi=>i<=s.2.length/\∀ j,j<i->(fileOf k ps (s.2.getD j ([],[]))).isSome=ab) (λi:Nat=>[(0,dI k),(2,cP.sl ps),(4,.e (.one (.ptr 0 0))),(8,.e (.one (.vec 1 2 (cV k ps (s.2.take i)).length (cF.fn (cV k ps (s.2.take i)))))),(9,dI i)]) (λi=>[Wv s,.vec 129 2 (cV k ps (s.2.take i)).length (cF.fn (cV k ps (s.2.take i)))]) (λi=>s.2.length-i) 0 rfl (by simp[ag.cat,ag,aR.same,aR.nil,cV]) rfl (by simp[ag.cat,ag,aR.same,aR.nil,cV]) rfl ⟨by omega,by omega⟩ ?_
 rintro i ⟨hi,D⟩
 by_cases h:i<s.2.length
 .have y:=H _ (gO (d:=([],[])) h);have b:=ph (k:=k) (ps:=ps) h;have B:(cV k ps (s.2.take i)).length=i:=by simp[cV];omega
  have c:s.2.getD (i:Int).toNat cL.bC=s.2.getD i ([],[]):=by rw[bt];rfl
  have g:=pj (k:=k) (ps:=ps) h;generalize I:s.2.getD i ([],[])=x at y b c g;generalize cV k ps (s.2.take i)=fs at *;refine aE a [(25,ab),(1000008,ab)] 100 rfl (by simp[ag];omega) ?_
  refine AK.ix 10 9 1 rfl rfl ?_;refine aE a [] 100 rfl av ?_;refine AK.bJ 3 (λj=>j<=x.2.length/\∀ q,q<j->(du k ps (x.2.getD q 0)).isSome=ab) (λj:Nat=>[(0,dI k),(2,cP.sl ps),(4,.e (.one (.ptr 0 0))),(8,.e (.one (.vec 1 2 fs.length (cF.fn fs)))),(9,dI i),(10,.e (.one (.vec 2 1 (IS k ps (x.2.take j)).length (cS.fn (IS k ps (x.2.take j)))))),(11,dI j)]) (λj=>[Wv s,.vec 129 2 fs.length (cF.fn fs),.vec 9 1 (IS k ps (x.2.take j)).length (cS.fn (IS k ps (x.2.take j)))]) (λj=>x.2.length-j) 0 rfl (by simp[ag.cat,ag,aR.same,aR.nil]) rfl (by simp[ag.cat,ag,aR.same,aR.nil]) rfl ⟨by omega,by omega⟩ ?_
  rintro j ⟨F,z⟩
  by_cases A:j<x.2.length
  .have f:x.2.getD (j:Int).toNat cI.bC=x.2.getD j 0:=by rw[bt];rfl
   cases m:du k ps (x.2.getD j 0) with
   |none =>
    have e:fileOf k ps x=af:=by simp[fileOf,CC A m]
    refine aE a [(37,ab),(56,ab)] 100 rfl ?_ (AK.ee (AK.rY (bZ.zero rfl ?_)))
    .simp only[ag,c,f,m,cP.list_fn,cP.aH];simp;omega
    .rw[g e];simp[ag,ag.cat,aR.nil]
   |some q =>
    have l:=OD (k:=k) (ps:=ps) A;rw[m] at l;have p:(IS k ps (x.2.take j)).length=j:=by simp;omega
    have o:=cS.cm (IS k ps (x.2.take j)) q;refine aE a [(37,ab),(56,ae)] 100 rfl ?_ (AK.aQ (j+1) rfl ?_ ?_ ⟨A,λr G=>?_⟩ (by omega))
    .simp only[ag,c,f,m,cP.list_fn,cP.aH,p,bx,show i9.bytes=16 from rfl];simp;omega
    .rw[l];simp only[ag.cat,ag,c,f,m,cP.list_fn,bG,eh,aG,aF]
     and_intros <;> first|exact aR.same|exact o|rfl|omega
    .rw[l];simp only[ag.cat,ag,c,f,m,cP.list_fn,bG,eh,aG,aF]
     and_intros <;> first|exact aR.same|exact o|rfl|omega
    grind
  .obtain rfl:j=x.2.length:=by omega
   have u:=AF z;rw[bY];have p:(IS k ps x.2).length=x.2.length:=by simp
   refine aE a [(37,ae)] 100 rfl (by simp only[ag,c];simp[h]) (AK.leaveD rfl rfl ?_)
   cases n:fM (IS k ps x.2) with
   |none =>
    have e:fileOf k ps x=af:=by simp[fileOf,u,n]
    refine aE a [(68,ab)] 100 rfl ?_ (AK.ee (bZ.zero rfl ?_))
    .simp only[ag,cS.list_fn,cS.aH,n];simp
    .rw[g e];simp[ag,ag.cat,aR.nil]
   |some t =>
    have e:fileOf k ps x=aa (x.1,t):=by simp[fileOf,u,n]
    rw[e] at b;have C:=cF.cm fs (x.1,t);refine aE a [(68,ae)] 100 rfl ?_ (AK.aQ (i+1) rfl ?_ ?_ ⟨h,λr G=>?_⟩ (by omega))
    .simp only[ag,c,cS.list_fn,cS.aH,n,B,bx,show i129.bytes=32 from rfl];simp;omega
    .rw[b];simp only[ag.cat,ag,c,cS.list_fn,n,fG,bG,eh,aG,aF]
     and_intros <;> first|exact aR.same|exact C|rfl|omega
    .rw[b];simp only[ag.cat,ag,c,cS.list_fn,n,fG,bG,eh,aG,aF]
     and_intros <;> first|exact aR.same|exact C|rfl|omega
    grind
 .obtain rfl:i=s.2.length:=by omega
  rw[bY];have E:s.2.all (λx=>(fileOf k ps x).isSome)=ab:=List.all_eq_true.2 λx y=>by
   obtain⟨j,F,rfl⟩:=lH.1 y
   grind
  refine aE a [(25,ae)] 100 rfl (by simp[ag]) (AK.leaveD rfl rfl ?_)
  cases w:dj (cV k ps s.2) with
  |false =>
   refine aE a [(83,ab)] 100 rfl ?_ (AK.bo rfl ?_)
   .simp[ag,cF.list_fn,cF.aH,w]
   .simp[ag,ag.cat,cG,w,aR.nil]
  |true =>
   refine aE a [(83,ae)] 100 rfl ?_ (AK.bo rfl ?_)
   .simp[ag,cF.list_fn,cF.aH,w]
   .simp[ag,ag.cat,cG,w,v,E,aR.same]
abbrev w5:dg:=Di aI (B7 cL) (aL cP) (λk s ps=>Rv ((cG k s ps).getD []) (cG k s ps).isSome) λ_ s _=>[s.2.length<=4000000,∀ x∈s.2,x.2.length<=4000000]
def EN:dD X 102 w5:=.IN λk s ps h=>AG k s ps h.1 h.2
abbrev sr:=Int×Int
def gq(h:sr):Bool:=decide (1<=h.1/\h.1<=2)&&decide (1<=h.2/\h.2<=20)
def kR(l:List sr):Bool:=(bh l.length).all (λi=>gq (l.getD i (0,0)))&&decide (l.length<=9)
abbrev YG(h:sr):D:=.e (.agg [.c (.int .i64 h.1),.c (.int .i64 h.2)])
def HV(h:sr):Ev X 103 [YG h] [] (dB (gq h)) []:=by
 refine Ev.bQ Tryz.func103 rfl λb=>?_
 have a:bD X [(18,pn)]:=.cons qf .nil
 by_cases c:1<=h.1/\h.1<=2
 .exact aE a [(6,ab)] 100 rfl (by simp[ag,c]) (AK.bo rfl (by simp[ag,gq,c]))
 .exact aE a [(6,ae)] 100 rfl (by simp[ag];omega) (AK.bo rfl (by simp only[ag,gq,dY c];simp))
def HW(l:List sr):Ev X 79 [cH.sl l] [] (dB (kR l)) []:=by
 refine Ev.bQ Tryz.func79 rfl λf=>?_
 have e:=f.sl 0 rfl;have b:bD X [(103,kN Ta (λh=>dB (gq h)) λ_=>[])]:=.cons (.oH λh _=>HV h) .nil
 refine aE b [] 100 rfl av ?_;unfold kR;refine AK.jV (λi=>i<=l.length/\∀ j,j<i->gq (l.getD j (0,0))=ab) (λi:Nat=>[(0,cH.sl l),(3,dI i)]) (λ_=>[]) (λi=>l.length-i) 0 rfl (by simp[ag.cat,ag,aR.same]) rfl av ⟨by omega,by omega⟩ ?_
 rintro i ⟨hi,a⟩
 by_cases h:i<l.length
 .have d:l.getD i cH.bC=l.getD i (0,0):=rfl;cases c:gq (l.getD i (0,0)) with
  |false =>
   refine aE b [(7,ab),(15,ab)] 100 rfl ?_ (AK.hY (bZ.zero rfl ?_))
   .simp[-ai,ag,d,c,h]
   .rw[dO h c];simp[ag]
  |true =>
   refine aE b [(7,ab),(15,ae)] 100 rfl ?_ (AK.gm (i+1) rfl (by simp[ag.cat,ag,aR.same]) rfl av ⟨h,fe a c⟩ (by omega))
   simp[-ai,ag,d,c,h,bx];omega
 .obtain rfl:i=l.length:=by omega
  refine aE b [(7,ae)] 100 rfl (by simp[ag]) (AK.leave rfl rfl ?_)
  exact aE b [] 100 rfl av (AK.bo rfl (by rw[b6.2 a];simp[ag];omega))
abbrev ss:dg:=kN (aL cH) (λl=>dB (kR l)) λ_=>[]
def Gi:dD X 79 ss:=.oH λl _=>HW l
def bU(ps:List bw):List Int:=ps.flatMap λp=>p.2.map (·.1)
def CE{α:Type}(f:α->Int)(d:α)(l:List α)(i:Nat):Bool:=i==0||decide (f (l.getD (i-1) d)<f (l.getD i d))
def l4(k:Int)(ps:List bw)(i:Nat):Bool:=jq k (ps.getD i (0,[]))&&CE (·.1) (0,[]) ps i
def jT(k:Int)(s:a9)(i:Nat):Bool:=decide (1<=(s.2.1.getD i (0,[])).1/\(s.2.1.getD i (0,[])).1<=20)&&CE (·.1) (0,[]) s.2.1 i&&(cG k (s.2.1.getD i (0,[])) s.1).isSome
def gI(k:Int)(s:a9):Bool:=(bh s.1.length).all (l4 k s.1)&&decide (bU s.1).Nodup&&(bh s.2.1.length).all (jT k s)&&cA k&&kR s.2.2&&decide (s.1.length<=20)
def w6{ps:List bw}{i:Nat}(h:i<ps.length):bU (ps.take (i+1))=bU (ps.take i)++(ps.getD i (0,[])).2.map (·.1):=by
 rw[bu h (0,[])];simp[bU]
def HX{ps:List bw}{i:Nat}(h:¬(bU (ps.take i)).Nodup):¬(bU ps).Nodup:=λa=>h (by
 have:bU ps=bU (ps.take i)++bU (ps.drop i):=by unfold bU;rw[<-nI,j0]
 grind)
abbrev MQ(s:a9):aW:=.cells 27 [.c (.sl ae 2 s.1.length (cP.fn s.1)),.c (.sl ae 2 s.2.1.length (cr.fn s.2.1)),.c (.sl ae 2 s.2.2.length (cH.fn s.2.2))]
def LB(k:Int)(s:a9)(x:cN)(c:x.2.length<=4000000)(b:∀ y∈x.2,y.2.length<=4000000):Ev X 78 [dI k,ey s,Ca x] [] (dB (cG k x s.1).isSome) []:=by
 refine Ev.bQ Tryz.func78 rfl λd=>?_
 have a:bD X [(102,w5)]:=.cons EN .nil;have e:(x.1,cL.list x.2.length (cL.fn x.2))=x:=by rw[cL.list_fn]
 refine aE a [] 100 rfl ?_ (AK.bo rfl ?_)
 .simp only[ag,cL.list_fn,cL.aH,cP.aH,c,aG,aF];exact b
 .simp[ag,ag.cat,cL.list_fn,cP.list_fn]
abbrev LC:dg:=Di aI N0 (B7 cL) (λk s x=>dB (cG k x s.1).isSome) λ_ _ x=>[x.2.length<=4000000,∀ y∈x.2,y.2.length<=4000000]
def Se:dD X 78 LC:=.IN λk s x h=>LB k s x h.1 h.2
def mJ{α:Type}{f:α->Int}{d:α}{l:List α}{i:Nat}(h:i≠0):CE f d l i=decide (f (l.getD (i-1) d)<f (l.getD i d)):=by
 unfold CE;grind
def CF(k:Int)(s:a9)(P:jQ s)(S:s.1.length<=4000000)(U:s.2.1.length<=4000000):Ev X 39 [dI k,ey s] [] (dB (gI k s)) []:=by
 refine Ev.bQ Tryz.func39 rfl λR=>?_
 have g:bD X [(77,Cy),(38,Cz),(18,pn),(78,LC),(57,yP),(79,ss)]:=.cons Lw (.cons Gh (.cons qf (.cons Se (.cons Cv (.cons Gi .nil)))));refine aE g [(1000002,ab)] 100 rfl av ?_;refine AK.ix 5 3 1 rfl rfl ?_;refine aE g [] 100 rfl av ?_;unfold gI;refine AK.bJ 2 (λi=>i<=s.1.length/\(∀ j,j<i->l4 k s.1 j=ab)/\(bU (s.1.take i)).Nodup/\(bU (s.1.take i)).length<=4*i) (λi:Nat=>[(0,dI k),(3,.e (.one (.ptr 0 0))),(5,.e (.one (.vec 1 1 (bU (s.1.take i)).length (cI.fn (bU (s.1.take i)))))),(6,dI i)]) (λi=>[MQ s,.vec 3 1 (bU (s.1.take i)).length (cI.fn (bU (s.1.take i)))]) (λi=>s.1.length-i) 0 rfl (by simp[ag.cat,ag,aR.nil,bU]) rfl (by simp[ag.cat,ag,aR.nil,aR.same,bU]) rfl ⟨by omega,by omega,by simp[bU],by simp[bU]⟩ ?_
 rintro i ⟨hi,m,w,O⟩
 by_cases h:i<s.1.length
 .have u:=w6 h;have J:=HX (ps:=s.1) (i:=i+1);have o:s.1.getD i cP.bC=s.1.getD i (0,[]):=rfl;have r:s.1.getD (i-1) cP.bC=s.1.getD (i-1) (0,[]):=rfl;have c:l4 k s.1 i=(jq k (s.1.getD i (0,[]))&&CE (·.1) (0,[]) s.1 i):=rfl;have G:=mJ (f:=λp:bw=>p.1) (d:=(0,[])) (l:=s.1) (i:=i)
  generalize K:s.1.getD i (0,[])=p at *;generalize s.1.getD (i-1) (0,[])=p' at *;cases x:jq k p with
  |false =>
   rw[x,pF] at c;refine aE g [(14,ab),(25,ab),(44,ab)] 100 rfl ?_ (AK.ee (bZ.zero rfl ?_))
   .simp[-ai,ag,o,x,dx.list_fn,dx.aH,h]
   .rw[dO h c];simp[ag]
  |true =>
   have V:p.2.length<=4:=by rw[pv] at x;grind
   rw[x,dF] at c;cases z:CE (·.1) (0,[]) s.1 i with
   |false =>
    have v:i≠0:=by rintro rfl;cases z
    have F:¬p'.1<p.1:=by grind
    refine aE g [(14,ab),(25,ae),(28,ab),(42,ab),(44,ab)] 100 rfl ?_ (AK.ee (bZ.zero rfl ?_))
    .simp[-ai,ag,o,r,x,dx.list_fn,dx.aH,h,bx];omega
    .rw[dO h (c.trans z)];simp[ag]
   |true =>
   rw[z] at c
   apply AK.join [(0,dI k),(3,.e (.one (.ptr 0 0))),(5,.e (.one (.vec 1 1 (bU (s.1.take i)).length (cI.fn (bU (s.1.take i)))))),(6,dI i),(7,dI 0)] [MQ s,.vec 3 1 (bU (s.1.take i)).length (cI.fn (bU (s.1.take i)))]
   .intro D
    by_cases v:i=0
    .subst v;refine aE g [(14,ab),(25,ae),(28,ae),(44,ae)] 100 rfl ?_ (D _ _ rfl ?_)
     .simp[-ai,ag,o,x,dx.list_fn,dx.aH,h]
     .simp[ag.cat,ag,aR.same]
    .have F:p'.1<p.1:=by grind
     refine aE g [(14,ab),(25,ae),(28,ab),(42,ae),(44,ae)] 100 rfl ?_ (D _ _ rfl ?_)
     .simp[-ai,ag,o,r,x,dx.list_fn,dx.aH,h,bx];omega
     .simp[ag.cat,ag,aR.same]
   generalize bU (s.1.take i)=ns at *;refine AK.bJ 2 (λj=>j<=p.2.length/\(ns++(p.2.take j).map (·.1)).Nodup) (λj:Nat=>[(0,dI k),(3,.e (.one (.ptr 0 0))),(5,.e (.one (.vec 1 1 (ns++(p.2.take j).map (·.1)).length (cI.fn (ns++(p.2.take j).map (·.1)))))),(6,dI i),(7,dI j)]) (λj=>[MQ s,.vec 3 1 (ns++(p.2.take j).map (·.1)).length (cI.fn (ns++(p.2.take j).map (·.1)))]) (λj=>p.2.length-j) 0 rfl (by simp[ag.cat,ag,aR.same]) rfl (by simp[ag.cat,ag,aR.same]) rfl ⟨by omega,by simpa using w⟩ ?_
   rintro j ⟨T,B⟩
   by_cases t:j<p.2.length
   .have E:p.2.getD j dx.bC=fN p j:=rfl;have C:ns++(p.2.take (j+1)).map (·.1)=(ns++(p.2.take j).map (·.1))++[(fN p j).1]:=by rw[bu t (0,[])];simp
    have A:(ns++(p.2.take j).map (·.1)).length=ns.length+j:=by simp;omega
    generalize ns++(p.2.take j).map (·.1)=a at *;cases M:a.contains (fN p j).1 with
    |true =>
     refine aE g [(53,ab),(67,ab)] 100 rfl ?_ (AK.ee (AK.rY (bZ.zero rfl ?_)))
     .simp[-ai,-List.contains_eq_mem,ag,o,E,h,t,M,cI.list_fn,cI.aH]
     .have Q:¬(bU s.1).Nodup:=J (by
       have e:ns++p.2.map (·.1)=(ns++(p.2.take (j+1)).map (·.1))++(p.2.drop (j+1)).map (·.1):=by rw[ij,<-me,j0]
       grind)
      simp[ag,Q]
    |false =>
     have L:=cI.cm a (fN p j).1;have H:cI.list (ns.length+j) (cI.fn a)=a:=by rw[<-A];exact cI.list_fn a
     refine aE g [(53,ab),(67,ae)] 100 rfl ?_ (AK.aQ (j+1) rfl ?_ ?_ ⟨t,?_⟩ (by omega))
     .simp[-ai,-List.contains_eq_mem,ag,o,E,h,t,M,cI.list_fn,cI.aH,A,H,bx,show i3.bytes=8 from rfl];omega
     .rw[C];simp only[ag.cat,ag,bt,o,E,bG,eh,aG,aF]
      and_intros <;> first|exact aR.same|exact L|rfl|omega
     .rw[C];simp only[ag.cat,ag,bt,o,E,bG,eh,aG,aF]
      and_intros <;> first|exact aR.same|exact L|rfl|omega
     grind
   .obtain rfl:j=p.2.length:=by omega
    rw[bY] at B ⊢;refine aE g [(53,ae)] 100 rfl ?_ (AK.leaveD rfl rfl ?_)
    .simp[-ai,ag,o,h]
    refine aE g [] 100 rfl ?_ (AK.aQ (i+1) rfl ?_ ?_ ⟨h,fe m c,by rw[u];exact B,by rw[u];simp;omega⟩ (by omega))
    .simp[ag,bx];omega
    .rw[u];simp[ag.cat,ag,aR.same]
    .rw[u];simp[ag.cat,ag,aR.same]
 obtain rfl:i=s.1.length:=by omega
 rw[bY] at w ⊢;refine aE g [(14,ae)] 100 rfl (by simp[ag]) (AK.leaveD rfl rfl ?_)
 refine aE g [] 100 rfl av ?_;rw[b6.2 m,ck w,dF,dF];generalize bU s.1=ns;refine AK.bJ 2 (λi=>i<=s.2.1.length/\(∀ j,j<i->jT k s j=ab)) (λi:Nat=>[(0,dI k),(3,.e (.one (.ptr 0 0))),(8,dI i)]) (λ_=>[MQ s,.vec 3 1 ns.length (cI.fn ns)]) (λi=>s.2.1.length-i) 0 rfl (by simp[ag.cat,ag]) rfl (by simp[ag.cat,ag,aR.same]) rfl ⟨by omega,by omega⟩ ?_
 rintro i ⟨hi,m⟩
 by_cases h:i<s.2.1.length
 .have o:s.2.1.getD i cr.bC=s.2.1.getD i (0,[]):=rfl;have r:s.2.1.getD (i-1) cr.bC=s.2.1.getD (i-1) (0,[]):=rfl;have n:=P _ (gO (d:=(0,[])) h);have c:jT k s i=(decide (1<=(s.2.1.getD i (0,[])).1/\(s.2.1.getD i (0,[])).1<=20)&&CE (·.1) (0,[]) s.2.1 i&&(cG k (s.2.1.getD i (0,[])) s.1).isSome):=rfl;have G:=mJ (f:=λp:cN=>p.1) (d:=(0,[])) (l:=s.2.1) (i:=i)
  generalize K:s.2.1.getD i (0,[])=p at *;generalize s.2.1.getD (i-1) (0,[])=p' at *
  by_cases y:1<=p.1/\p.1<=20
  rotate_left
  .refine aE g [(85,ab),(96,ab),(116,ab),(126,ab)] 100 rfl ?_ (AK.ee (bZ.zero rfl ?_))
   .simp[-ai,ag,o,h];omega
   .rw[dO h (by rw[c,dY y];rfl)];simp[ag]
  cases z:CE (·.1) (0,[]) s.2.1 i with
  |false =>
   have v:i≠0:=by rintro rfl;cases z
   have F:¬p'.1<p.1:=by grind
   refine aE g [(85,ab),(96,ae),(99,ab),(113,ab),(116,ab),(126,ab)] 100 rfl ?_ (AK.ee (bZ.zero rfl ?_))
   .simp[-ai,ag,o,r,h,y,bx];omega
   .rw[dO h (by grind)];simp[ag]
  |true =>
   rw[ck y,z,dF,dF] at c;cases t:(cG k p s.1).isSome with
   |false =>
    by_cases v:i=0
    .subst v;refine aE g [(85,ab),(96,ae),(99,ae),(116,ae),(126,ab)] 100 rfl ?_ (AK.ee (bZ.zero rfl ?_))
     .simp[-ai,ag,o,h,y,cL.list_fn,cL.aH,cP.list_fn,cP.aH,cr.aH,cH.aH,t,n.1];exactλa b q=>n.2 (a,b) q
     .rw[dO h (c.trans t)];simp[ag]
    .have F:p'.1<p.1:=by grind
     refine aE g [(85,ab),(96,ae),(99,ab),(113,ae),(116,ae),(126,ab)] 100 rfl ?_ (AK.ee (bZ.zero rfl ?_))
     .simp[-ai,ag,o,r,h,y,bx,cL.list_fn,cL.aH,cP.list_fn,cP.aH,cr.aH,cH.aH,t,n.1];and_intros <;> first|omega|exactλa b q=>n.2 (a,b) q
     .rw[dO h (c.trans t)];simp[ag]
   |true =>
    rw[t] at c
    by_cases v:i=0
    .subst v;refine aE g [(85,ab),(96,ae),(99,ae),(116,ae),(126,ae)] 100 rfl ?_ (AK.aQ 1 rfl (by simp[ag.cat,ag]) (by simp[ag.cat,ag,aR.same]) ⟨h,fe m c⟩ (by omega))
     simp[-ai,ag,o,h,y,bx,cL.list_fn,cL.aH,cP.list_fn,cP.aH,cr.aH,cH.aH,t,n.1];exactλa b q=>n.2 (a,b) q
    .have F:p'.1<p.1:=by grind
     refine aE g [(85,ab),(96,ae),(99,ab),(113,ae),(116,ae),(126,ae)] 100 rfl ?_ (AK.aQ (i+1) rfl (by simp[ag.cat,ag]) (by simp[ag.cat,ag,aR.same]) ⟨h,fe m c⟩ (by omega))
     simp[-ai,ag,o,r,h,y,bx,cL.list_fn,cL.aH,cP.list_fn,cP.aH,cr.aH,cH.aH,t,n.1];and_intros <;> first|omega|exactλa b q=>n.2 (a,b) q
 obtain rfl:i=s.2.1.length:=by omega
 refine aE g [(85,ae)] 100 rfl (by simp[ag]) (AK.leaveD rfl rfl ?_)
 rw[b6.2 m,dF];cases I:cA k
 .exact aE g [(129,ae),(134,ae)] 100 rfl (by simp[ag,I]) (AK.bo rfl (by simp[ag]))
 cases N:kR s.2.2
 .exact aE g [(129,ab),(134,ae)] 100 rfl (by simp[ag,I,N,cH.list_fn,cH.aH]) (AK.bo rfl (by simp[ag]))
 exact aE g [(129,ab),(134,ab)] 100 rfl (by simp[ag,I,N,cH.list_fn,cH.aH]) (AK.bo rfl (by simp[ag];omega))
abbrev tp:dg:=ow aI N0 (λk s=>dB (gI k s)) λ_ s=>[jQ s,s.1.length<=4000000,s.2.1.length<=4000000]
def yQ:dD X 39 tp:=.qG λk s h=>CF k s h.1 h.2.1 h.2.2
def iG(n:Int)(a:List Int×Bool) (y:Int):List Int×Bool :=
 if a.2=ab then (if y=n then a else (a.1++[y],ab)) else if n<=y then (if y=n then (a.1++[n],ab) else (a.1++[n,y],ab)) else (a.1++[y],ae)
abbrev oK(n:Int)(l:List Int)(i:Nat):List Int×Bool:=(l.take i).foldl (iG n) ([],ae)
def kS(l:List Int) (n:Int):List Int:=if (l.foldl (iG n) ([],ae)).2=ab then (l.foldl (iG n) ([],ae)).1 else (l.foldl (iG n) ([],ae)).1++[n]
def CG{n:Int}{l:List Int}{i:Nat}(h:i<l.length):oK n l (i+1)=iG n (oK n l i) (l.getD i 0):=by
 unfold oK;rw[bu h 0,jC];rfl
def w7(n:Int)(l:List Int):∀ i,i<=l.length->(oK n l i).1.length+(if (oK n l i).2=ab then 0 else 1)<=i+1
 |0,_=>by simp[oK]
 |i+1,h=>by
  have:=w7 n l i (by omega)
  rw[CG (by omega)]
  generalize oK n l i=a at *;obtain⟨a,b⟩:=a;unfold iG
  grind
def LD(l:List Int) (n:Int):(kS l n).length<=l.length+1:=by
 have:=w7 n l l.length (bc _);simp only[oK,bY] at this;unfold kS;split at this <;> rename_i h
 .rw[bg h];omega
 .rw[aY h];simp;omega
def pq{α:Type}(c:hZ α)(l:List α)(x y:α):aR (l.length+1+1) (cJ (l.length+1) (cJ l.length (c.fn l) λq=>[c.enc x].getD q []) λq=>[c.enc y].getD q []) (c.fn (l++[x,y])):=c.pq l x y
def LF(l:List Int) (n:Int)(r:l.length<=100000000):Ev X 76 [cI.sl l,dI n] [] (cI.sl (kS l n)) []:=by
 refine Ev.bQ Tryz.func76 rfl λp=>?_
 refine aX [(1000002,ab)] 100 rfl av ?_;refine AK.ix 5 3 1 rfl rfl ?_;refine bm rfl av ?_;refine AK.bJ 1 (λi=>i<=l.length) (λi:Nat=>[(0,cI.sl l),(1,dI n),(5,.e (.one (.vec 0 1 (oK n l i).1.length (cI.fn (oK n l i).1)))),(6,dB (oK n l i).2),(7,dI i)]) (λi=>[.vec 3 1 (oK n l i).1.length (cI.fn (oK n l i).1)]) (λi=>l.length-i) 0 rfl (by simp[oK,ag.cat,ag,aR.same,aR.nil]) rfl (by simp[oK,ag.cat,ag,aR.same,aR.nil]) rfl (by omega) ?_
 intro i hi;have j:=w7 n l i hi
 by_cases h:i<l.length
 .have c:=CG (n:=n) h;have d:l.getD (i:Int).toNat cI.bC=l.getD i 0:=by rw[bt];rfl
  generalize l.getD i 0=y at *;generalize oK n l i=a at *;obtain⟨a,b⟩:=a;have g:=λy=>cI.cm a y
  have o:=λx y=>cI.pq a x y
  have q:(a.length+1+1)*8<=140737488355328:=by grind
  have fin:∀ a',oK n l (i+1)=a'->True:=λ_ _=>trivial
  have k:l.length-(i+1)<l.length-i:=by omega
  by_cases f:y=n
  .cases b with
   |true =>
    rw[show iG n (a,ab) y=(a,ab) by simp[iG,f]] at c
    refine aX [(12,ab),(34,ae)] 100 rfl ?_ (AK.aQ (i+1) rfl ?_ ?_ h k)
    .simp only[ag,d,f,bx];simp;omega
    .rw[c];simp[ag.cat,ag,aR.same]
    .rw[c];simp[ag.cat,ag,aR.same]
   |false =>
    rw[show iG n (a,ae) y=(a++[n],ab) by simp[iG,f]] at c
    refine aX [(12,ab),(24,ab),(34,ae)] 100 rfl ?_ (AK.aQ (i+1) rfl ?_ ?_ h k)
    .simp only[ag,d,f,bx,show i3.bytes=8 from rfl];simp;omega
    .rw[c];simp only[ag.cat,ag,bG,eh,aG,aF];and_intros <;> first|exact aR.same|exact g n|rfl|omega
    .rw[c];simp only[ag.cat,ag,bG,eh,aG,aF];and_intros <;> first|exact aR.same|exact g n|rfl|omega
  .cases b with
   |true =>
    rw[show iG n (a,ab) y=(a++[y],ab) by simp[iG,f]] at c
    refine aX [(12,ab),(34,ab)] 100 rfl ?_ (AK.aQ (i+1) rfl ?_ ?_ h k)
    .simp only[ag,d,bx,show i3.bytes=8 from rfl];simp[f];omega
    .rw[c];simp only[ag.cat,ag,d,bG,eh,aG,aF];and_intros <;> first|exact aR.same|exact g y|rfl|omega
    .rw[c];simp only[ag.cat,ag,d,bG,eh,aG,aF];and_intros <;> first|exact aR.same|exact g y|rfl|omega
   |false =>
    by_cases m:n<=y
    .rw[show iG n (a,ae) y=(a++[n,y],ab) by simp[iG,f,m]] at c
     refine aX [(12,ab),(24,ab),(34,ab)] 100 rfl ?_ (AK.aQ (i+1) rfl ?_ ?_ h k)
     .simp only[ag,d,bx,show i3.bytes=8 from rfl];simp[f,m];omega
     .rw[c];simp only[ag.cat,ag,d,bG,eQ,gA,aG,aF];and_intros <;> first|exact aR.same|exact o n y|rfl|omega
     .rw[c];simp only[ag.cat,ag,d,bG,eQ,gA,aG,aF];and_intros <;> first|exact aR.same|exact o n y|rfl|omega
    .rw[show iG n (a,ae) y=(a++[y],ae) by simp[iG,m]] at c
     refine aX [(12,ab),(24,ae),(34,ab)] 100 rfl ?_ (AK.aQ (i+1) rfl ?_ ?_ h k)
     .simp only[ag,d,bx,show i3.bytes=8 from rfl];simp[f,m];omega
     .rw[c];simp only[ag.cat,ag,d,bG,eh,aG,aF];and_intros <;> first|exact aR.same|exact g y|rfl|omega
     .rw[c];simp only[ag.cat,ag,d,bG,eh,aG,aF];and_intros <;> first|exact aR.same|exact g y|rfl|omega
 .obtain rfl:i=l.length:=by omega
  unfold kS;simp only[oK,bY] at j ⊢;generalize l.foldl (iG n) ([],ae)=a at *;obtain⟨a,b⟩:=a;have g:=cI.cm a n;refine aX [(12,ae)] 100 rfl (by simp[ag]) (AK.leaveD rfl rfl ?_)
  cases b with
  |true=>exact bm rfl (by simp[ag]) (AK.bo rfl (by simp[ag,aR.same]))
  |false =>
   refine bm rfl ?_ (AK.bo rfl ?_)
   .simp only[ag,show i3.bytes=8 from rfl];simp at j ⊢;omega
   .simp only[ag,jB,b5,bG,eh];and_intros <;> first|exact g|trivial
abbrev AH:dg:=ow (aL cI) aI (λl n=>cI.sl (kS l n)) λl _=>[l.length<=100000000]
def EO:dD X 76 AH:=.qG λl n h=>LF l n h
def gJ(a:List Int):∀ l:List Int,(l.foldl kS a).length<=a.length+l.length
 |[]=>by simp
 |x::l=>by
  have:=gJ (kS a x) l;have:=LD a x
  grind
def tq{b:Type}(f:b->Int->b)(a:b){l:List Int}{j:Nat}(h:j<l.length):(l.take (j+1)).foldl f a=f ((l.take j).foldl f a) (l.getD j 0):=by
 rw[bu h 0,jC];rfl
def ff(l:List gG):List Int:=(cf l).foldl kS []
def l5(l:List gG):(ff l).length<=(cf l).length:=by
 have:=gJ [] (cf l)
 rwa [gA,br] at this
def xQ(s:cN)(o:s.2.length<=4000000)(p:(cf s.2).length<=4000000):Ev X 75 [Ca s] [] (cI.sl (ff s.2)) []:=by
 refine Ev.bQ Tryz.func75 rfl λr=>?_
 have b:bD X [(76,AH)]:=.cons EO .nil;refine aE b [] 100 rfl av ?_;refine AK.bJ 1 (λi=>i<=s.2.length) (λi:Nat=>[(1,.e (.one (.ptr 0 0))),(3,cI.sl (ff (s.2.take i))),(4,dI i)]) (λ_=>[Wv s]) (λi=>s.2.length-i) 0 rfl (by simp[ag.cat,ag,aR.nil,ff,cf]) rfl (by simp[ag.cat,ag,aR.same]) rfl (by omega) ?_
 intro i hi
 by_cases h:i<s.2.length
 .have k:s.2.getD i cL.bC=s.2.getD i ([],[]):=rfl;have d:=su h;have m:=nA s.2 (i+1);have t:=l5 (s.2.take i);have n:ff (s.2.take (i+1))=(s.2.getD i ([],[])).2.foldl kS (ff (s.2.take i)):=by simp only[ff,d,jC]
  rw[d,bG] at m;generalize s.2.getD i ([],[])=x at *;generalize ff (s.2.take i)=a at *;refine aE b [(11,ab)] 100 rfl (by simp[ag,h]) ?_
  refine AK.bJ 1 (λj=>j<=x.2.length) (λj:Nat=>[(1,.e (.one (.ptr 0 0))),(3,cI.sl ((x.2.take j).foldl kS a)),(4,dI i),(5,dI j)]) (λ_=>[Wv s]) (λj=>x.2.length-j) 0 rfl (by simp[ag.cat,ag,aR.same]) rfl (by simp[ag.cat,ag,aR.same]) rfl (by omega) ?_
  intro j q
  by_cases l:j<x.2.length
  .have c:x.2.getD j cI.bC=x.2.getD j 0:=rfl;have f:=tq kS a l;have g:=gJ a (x.2.take j);rw[List.length_take] at g;generalize (x.2.take j).foldl kS a=a2 at *;have e:=cI.list_fn a2;refine aE b [(22,ab)] 100 rfl ?_ (AK.aQ (j+1) rfl ?_ ?_ l (by omega))
   .simp[-ai,ag,k,c,h,l,e,cI.aH,bx];omega
   .rw[f];simp[-ai,ag.cat,ag,k,c,e,aR.same]
   .simp[ag.cat,ag,aR.same]
  .obtain rfl:j=x.2.length:=by omega
   rw[bY,<-n];refine aE b [(22,ae)] 100 rfl ?_ (AK.leaveD rfl rfl ?_)
   .simp[-ai,ag,k,h]
   refine aE b [] 100 rfl ?_ (AK.aQ (i+1) rfl ?_ ?_ h (by omega))
   .simp[ag,bx];omega
   .simp[ag.cat,ag,aR.same]
   .simp[ag.cat,ag,aR.same]
 .obtain rfl:i=s.2.length:=by omega
  rw[bY];refine aE b [(11,ae)] 100 rfl (by simp[ag]) (AK.leaveD rfl rfl ?_)
  exact aE b [] 100 rfl av (AK.bo rfl (by simp[ag,aR.same]))
abbrev AI:dg:=kN (B7 cL) (λs=>cI.sl (ff s.2)) λs=>[s.2.length<=4000000,(cf s.2).length<=4000000]
def Gj:dD X 75 AI:=.oH λs h=>xQ s h.1 h.2
def jz(l:List cN):List Int:=l.flatMap λx=>cf x.2
def fw(l:List cN):List Int:=l.foldl (λout x=>(ff x.2).foldl kS out) []
def qM{l:List cN}{i:Nat}(h:i<l.length):jz (l.take (i+1))=jz (l.take i)++cf (l.getD i (0,[])).2:=by
 rw[bu h (0,[])];simp[jz]
def CH(l:List cN)(i:Nat):(jz (l.take i)).length<=(jz l).length:=by
 have h:jz l=jz (l.take i)++jz (l.drop i):=by unfold jz;rw[<-nI,j0]
 rw[h,bG];omega
def w8{l:List cN}{i:Nat}(h:i<l.length):fw (l.take (i+1))=(ff (l.getD i (0,[])).2).foldl kS (fw (l.take i)):=by
 unfold fw;rw[bu h (0,[]),jC];rfl
def p0(l:List cN):∀ i,i<=l.length->(fw (l.take i)).length<=(jz (l.take i)).length
 |0,_=>by simp[fw]
 |i+1,h=>by
  have c:=p0 l i (by omega)
  have b:=gJ (fw (l.take i)) (ff (l.getD i (0,[])).2);have a:=l5 (l.getD i (0,[])).2;rw[w8 (by omega),qM (by omega),bG]
  omega
def EP(s:a9)(l:jQ s)(u:s.2.1.length<=4000000)(t:(jz s.2.1).length<=4000000):Ev X 37 [ey s] [] (cI.sl (fw s.2.1)) []:=by
 refine Ev.bQ Tryz.func37 rfl λv=>?_
 have b:bD X [(76,AH),(75,AI)]:=.cons EO (.cons Gj .nil);refine aE b [] 100 rfl av ?_;refine AK.bJ 1 (λi=>i<=s.2.1.length) (λi:Nat=>[(1,.e (.one (.ptr 0 0))),(3,cI.sl (fw (s.2.1.take i))),(4,dI i)]) (λ_=>[MQ s]) (λi=>s.2.1.length-i) 0 rfl (by simp[ag.cat,ag,aR.nil,fw]) rfl (by simp[ag.cat,ag,aR.same]) rfl (by omega) ?_
 intro i hi
 by_cases h:i<s.2.1.length
 .have o:s.2.1.getD i cr.bC=s.2.1.getD i (0,[]):=rfl;have r:=l _ (gO (d:=(0,[])) h);have m:=qM h;have p:=CH s.2.1 (i+1);have y:=p0 s.2.1 i hi;have l:=w8 h;rw[m,bG] at p;generalize s.2.1.getD i (0,[])=x at *;have q:=l5 x.2;generalize fw (s.2.1.take i)=a at *;refine aE b [(12,ab)] 100 rfl ?_ ?_
  .simp[-ai,ag,h,o,cL.list_fn,cL.aH];omega
  have k:s.2.1.getD (i:Int).toNat cr.bC=x:=by rw[bt];exact o
  rw[k,cL.list_fn];refine AK.bJ 1 (λj=>j<=(ff x.2).length) (λj:Nat=>[(1,.e (.one (.ptr 0 0))),(3,cI.sl (((ff x.2).take j).foldl kS a)),(4,dI i),(5,cI.sl (ff x.2)),(6,dI j)]) (λ_=>[MQ s]) (λj=>(ff x.2).length-j) 0 rfl (by simp[ag.cat,ag,aR.same]) rfl (by simp[ag.cat,ag,aR.same]) rfl (by omega) ?_
  intro j w;generalize ff x.2=ns at *
  by_cases n:j<ns.length
  .have c:ns.getD j cI.bC=ns.getD j 0:=rfl;have f:=tq kS a n;have g:=gJ a (ns.take j);rw[List.length_take] at g;generalize (ns.take j).foldl kS a=a2 at *;have e:=cI.list_fn a2;refine aE b [(24,ab)] 100 rfl ?_ (AK.aQ (j+1) rfl ?_ ?_ n (by omega))
   .simp[-ai,ag,c,n,e,cI.aH,bx];omega
   .rw[f];simp[-ai,ag.cat,ag,c,e,aR.same]
   .simp[ag.cat,ag,aR.same]
  .obtain rfl:j=ns.length:=by omega
   rw[bY,<-l];refine aE b [(24,ae)] 100 rfl (by simp[ag]) (AK.leaveD rfl rfl ?_)
   refine aE b [] 100 rfl ?_ (AK.aQ (i+1) rfl ?_ ?_ h (by omega))
   .simp[ag,bx];omega
   .simp[ag.cat,ag,aR.same]
   .simp[ag.cat,ag,aR.same]
 .obtain rfl:i=s.2.1.length:=by omega
  rw[bY];refine aE b [(12,ae)] 100 rfl (by simp[ag]) (AK.leaveD rfl rfl ?_)
  exact aE b [] 100 rfl av (AK.bo rfl (by simp[ag,aR.same]))
abbrev w9:dg:=kN N0 (λs=>cI.sl (fw s.2.1)) λs=>[jQ s,s.2.1.length<=4000000,(jz s.2.1).length<=4000000]
def CI:dD X 37 w9:=.oH λs h=>EP s h.1 h.2.1 h.2.2
end
end Go.AM.R1
namespace Go.AM
def Hl(M:Mem):List ak->List C->Prop
 |[],[]=>True
 |v::vs,c::cs=>Rd M v c/\Hl M vs cs
 |_,_=>False
structure FA (α:Type) where
 enc:α->List C
 dec:List C->Option (α×List Prop×List C)
 ok:∀ {cs a o r},dec cs=aa (a,o,r)->ag o->∀ {M:Mem} {vs:List ak},Hl M vs cs->∃ v1 v2,vs=v1++v2/\Hl M v1 (enc a)/\Hl M v2 r
def Hl.app{M:Mem}:∀ {v1 v2:List ak}{c1 c2:List C},Hl M v1 c1->Hl M v2 c2->Hl M (v1++v2) (c1++c2)
 |[],_,[],_,_,h=>h
 |_::_,_,_::_,_,h1,h2=>⟨h1.1,h1.2.app h2⟩
 |[],_,_::_,_,h,_=>h.elim
 |_::_,_,[],_,h,_=>h.elim
def Hl.one{M:Mem}{vs:List ak}{c:C}{r:List C}(h:Hl M vs (c::r)):∃ v a,vs=v::a/\Rd M v c/\Hl M a r:=by
 cases vs with
 |nil=>exact h.elim
 |cons v vs=>exact⟨v,vs,rfl,h⟩
def fL{α:Type}(c:hZ α):FA (List α):=⟨λl=>[.sl ae c.k l.length (c.fn l)],λcs=>match cs with
 |d::r=>match lh c.k (.e (.one (.c d))) with|some (n,es)=>aa (c.list n es,[c.fits n es],r)|none=>af
 |_=>af,λ{cs a o r} h f M vs hr=>by
 split at h
 .split at h
  .rename_i n es he
   cases h;obtain⟨v,b,rfl,g,i⟩:=hr.one;exact⟨[v],b,rfl,⟨c.kn (σ:=[]) (s:=⟨[],M,default,λ_=>True⟩) (v:=v) he f g,av⟩,i⟩
  .cases h
 .cases h⟩
def fP{α d:Type}(A:FA α)(B:FA d):FA (α×d):=⟨λx=>A.enc x.1++B.enc x.2,λcs=>match A.dec cs with
 |some (a,o,r)=>match B.dec r with|some (b,p,q)=>aa ((a,b),kh o p,q)|none=>af
 |none=>af,λ{cs a o r} h c M vs hr=>by
 split at h
 .rename_i f
  split at h
  .rename_i g
   cases h;rw[ag.cat] at c;obtain⟨v1,j,rfl,i,g2⟩:=A.ok f c.1 hr;obtain⟨e,v4,rfl,g3,g4⟩:=B.ok g c.2 g2;exact⟨v1++e,v4,(ij _ _ _).symm,i.app g3,g4⟩
  .cases h
 .cases h⟩
def Wq:List A->Option (List C)
 |[]=>aa []
 |.c x::r=>match Wq r with|some q=>aa (x::q)|none=>af
 |_=>af
def Yo:List C->List A
 |[]=>[]
 |x::r=>.c x::Yo r
def KJ{σ:List aW}{s:St}:∀ {cs:List A}{q:List C}{vs:List ak},Wq cs=aa q->dG σ s vs cs->Hl s.M vs q
 |[],q,vs,h,a=>by cases h;cases vs with|nil=>trivial|cons=>exact a.elim
 |.c x::r,q,vs,h,a=>by
  simp only[Wq] at h;split at h
  .rename_i b
   cases h;cases vs with
   |nil=>exact a.elim
   |cons v vs=>exact⟨a.1,KJ b a.2⟩
  .cases h
 |.ptr ..::_,_,_,h,_=>by cases h
 |.vec ..::_,_,_,h,_=>by cases h
 |.ref ..::_,_,_,h,_=>by cases h
 |.bp ..::_,_,_,h,_=>by cases h
 |.any::_,_,_,h,_=>by cases h
def KL{σ:List aW}{s:St}:∀ {q:List C}{vs:List ak},Hl s.M vs q->dG σ s vs (Yo q)
 |[],[],_=>trivial
 |_::_,_::_,h=>⟨h.1,KL h.2⟩
 |[],_::_,h=>h.elim
 |_::_,[],h=>h.elim
def Yp{α:Type}(F:FA α):Arg α:=⟨λa=>.e (.agg (Yo (F.enc a))),λd=>match d with
 |.e (.agg xs)=>match Wq xs with
  |some cs=>match F.dec cs with|some (a,o,[])=>aa (a,o)|_=>af
  |none=>af
 |_=>af,λ{d a o} h i σ s v r=>by
 split at h
 .split at h
  .rename_i b
   split at h
   .rename_i c
    cases h;obtain⟨vs,rfl,j⟩:=r;obtain⟨v1,g,rfl,f,g2⟩:=F.ok c i (KJ b j);cases g with
    |nil=>exact⟨v1,by rw[ik],KL f⟩
    |cons=>exact g2.elim
   .cases h
  .cases h
 .cases h⟩
end Go.AM
namespace Go.AM.R1
section
open Go.Proofs
variable {X:Cx ah}
abbrev cO:=a9×List Int×List Int
abbrev ft:=Int×cO×(Int×Int×Int×Bs)×List (Int×Int)×List Int
abbrev fSt:FA a9:=fP (fL cP) (fP (fL cr) (fL cH))
abbrev YH:FA cO:=fP fSt (fP (fL cI) (fL cI))
abbrev qN{α:Type}(c:hZ α)(l:List α):A:=.c (.sl ae c.k l.length (c.fn l))
abbrev Vy(w:cO):List A:=[qN cP w.1.1,qN cr w.1.2.1,qN cH w.1.2.2,qN cI w.2.1,qN cI w.2.2]
abbrev IT(w:cO):D:=.e (.agg (Vy w))
abbrev Ww(w:ft):List A:=.c (.int .i64 w.1)::(Vy w.2.1++[.c (.int .i64 w.2.2.1.1),.c (.int .i64 w.2.2.1.2.1),.c (.int .i64 w.2.2.1.2.2.1),.c (.str w.2.2.1.2.2.2),qN cH w.2.2.2.1,qN cI w.2.2.2.2])
abbrev Dl(w:ft):D:=.e (.agg (Ww w))
structure OE (s:a9):Prop where
 pN:s.1.length<=4000000
 sm:jQ s
 sN:s.2.1.length<=4000000
 aN:(jz s.2.1).length<=4000000
def l6(ps:List bw)(l:List Int)(i:Nat):Bool:=(ps.any λp=>p.1==l.getD i 0)&&CE (λx=>x) 0 l i
def fx(k:Int)(w:cO):Bool:=(fw w.1.2.1).all (λn=>w.2.1.contains n)&&(bh w.2.2.length).all (l6 w.1.1 w.2.2)&&gI k w.1
def LG{l:List Int}{p:Int->Bool}:l.all p=(bh l.length).all λi=>p (l.getD i 0):=by
 rw[nL,b6,List.all_eq_true]
 constructor
 .exactλh i hi=>h _ (gO hi)
 .intro h x a;obtain⟨i,hi,rfl⟩:=lH.1 a
  grind
def HY{l:List bw}{p:bw->Bool}{j:Nat}(h:j<l.length):(l.take (j+1)).any p=((l.take j).any p||p (l.getD j (0,[]))):=by
 rw[bu h (0,[]),List.any_append];simp
abbrev MS(w:cO):aW:=.cells 30 (Vy w)
def CJ(k:Int)(w:cO)(m:OE w.1):Ev X 19 [dI k,IT w] [] (dB (fx k w)) []:=by
 refine Ev.bQ Tryz.func19 rfl λB=>?_
 have c:bD X [(37,w9),(38,Cz),(39,tp)]:=.cons CI (.cons Gh (.cons yQ .nil));have D:=B.Lv 1 rfl 4 rfl;have u:=p0 w.1.2.1 _ (bc _);rw[bY] at u;have A:=m.aN;refine aE c [] 100 rfl ?_ ?_
 .simp[ag,cP.list_fn,cP.aH,cr.list_fn,cr.aH,cH.list_fn,cH.aH,m.sm,m.sN,m.aN]
 rw[cr.list_fn];unfold fx;rw[LG];generalize fw w.1.2.1=ms at *;refine AK.bJ 1 (λi=>i<=ms.length/\∀ j,j<i->w.2.1.contains (ms.getD j 0)=ab) (λi:Nat=>[(0,dI k),(3,.e (.one (.ptr 0 0))),(5,cI.sl ms),(6,dI i)]) (λ_=>[MS w]) (λi=>ms.length-i) 0 rfl (by simp[ag.cat,ag,aR.same]) rfl (by simp[ag.cat,ag,aR.same]) rfl ⟨by omega,by omega⟩ ?_
 rintro i ⟨hi,a⟩
 by_cases h:i<ms.length
 .have o:ms.getD i cI.bC=ms.getD i 0:=rfl;cases t:w.2.1.contains (ms.getD i 0) with
  |false =>
   refine aE c [(16,ab),(26,ab)] 100 rfl ?_ (AK.ee (bZ.zero rfl ?_))
   .simp[-ai,-List.contains_eq_mem,ag,o,h,t,cI.list_fn,cI.aH]
   .rw[dO h t];simp[ag]
  |true =>
   refine aE c [(16,ab),(26,ae)] 100 rfl ?_ (AK.aQ (i+1) rfl (by simp[ag.cat,ag,aR.same]) (by simp[ag.cat,ag,aR.same]) ⟨h,fe a t⟩ (by omega))
   simp[-ai,-List.contains_eq_mem,ag,o,h,t,cI.list_fn,cI.aH,bx];omega
 obtain rfl:i=ms.length:=by omega
 rw[b6.2 a,dF];refine aE c [(16,ae)] 100 rfl (by simp[ag]) (AK.leaveD rfl rfl ?_)
 refine aE c [] 100 rfl av ?_;refine AK.bJ 1 (λi=>i<=w.2.2.length/\∀ j,j<i->l6 w.1.1 w.2.2 j=ab) (λi:Nat=>[(0,dI k),(3,.e (.one (.ptr 0 0))),(7,dI i)]) (λ_=>[MS w]) (λi=>w.2.2.length-i) 0 rfl (by simp[ag.cat,ag]) rfl (by simp[ag.cat,ag,aR.same]) rfl ⟨by omega,by omega⟩ ?_
 rintro i ⟨hi,a⟩
 by_cases h:i<w.2.2.length
 .have o:w.2.2.getD i cI.bC=w.2.2.getD i 0:=rfl;have s:w.2.2.getD (i-1) cI.bC=w.2.2.getD (i-1) 0:=rfl;have g:l6 w.1.1 w.2.2 i=((w.1.1.any λp=>p.1==w.2.2.getD i 0)&&CE (λx=>x) 0 w.2.2 i):=rfl
  have y:=mJ (f:=λx:Int=>x) (d:=0) (l:=w.2.2) (i:=i)
  generalize w.2.2.getD i 0=n at *;generalize w.2.2.getD (i-1) 0=n' at *;refine aE c [(31,ab)] 100 rfl (by simp[ag,h]) ?_
  refine AK.bJ 1 (λj=>j<=w.1.1.length) (λj:Nat=>[(0,dI k),(3,.e (.one (.ptr 0 0))),(7,dI i),(8,dB ((w.1.1.take j).any λp=>p.1==n)),(9,dI j)]) (λ_=>[MS w]) (λj=>w.1.1.length-j) 0 rfl (by simp[ag.cat,ag]) rfl (by simp[ag.cat,ag,aR.same]) rfl (by omega) ?_
  intro j G
  by_cases r:j<w.1.1.length
  .have F:=m.pN;have C:w.1.1.getD j cP.bC=w.1.1.getD j (0,[]):=rfl;have q:=HY (p:=λp=>p.1==n) r
   generalize w.1.1.getD j (0,[])=p at *;generalize (w.1.1.take j).any (λp=>p.1==n)=b at *
   cases b with
   |true =>
    refine aE c [(39,ab)] 100 rfl ?_ (AK.aQ (j+1) rfl ?_ ?_ r (by omega))
    .simp[ag,r,bx];omega
    .rw[q];simp[ag.cat,ag]
    .simp[ag.cat,ag,aR.same]
   |false =>
    refine aE c [(39,ab)] 100 rfl ?_ (AK.aQ (j+1) rfl ?_ ?_ r (by omega))
    .simp[-ai,ag,h,r,bx];omega
    .rw[q];simp[-ai,ag.cat,ag,C,o]
    .simp[ag.cat,ag,aR.same]
  obtain rfl:j=w.1.1.length:=by omega
  rw[bY];refine aE c [(39,ae)] 100 rfl (by simp[ag]) (AK.leaveD rfl rfl ?_)
  cases v:w.1.1.any (λp=>p.1==n) with
  |false =>
   rw[v,pF] at g;refine aE c [(77,ab)] 100 rfl (by simp[ag]) (AK.ee (bZ.zero rfl ?_))
   rw[dO h g];simp[ag]
  |true =>
   rw[v,dF] at g
   by_cases z:i=0
   .subst z;refine aE c [(63,ae),(77,ae)] 100 rfl ?_ (AK.aQ 1 rfl (by simp[ag.cat,ag]) (by simp[ag.cat,ag,aR.same]) ⟨h,fe a (by rw[g];rfl)⟩ (by omega))
    simp[ag,bx]
   by_cases E:n'<n
   .refine aE c [(63,ab),(75,ae),(77,ae)] 100 rfl ?_ (AK.aQ (i+1) rfl (by simp[ag.cat,ag]) (by simp[ag.cat,ag,aR.same]) ⟨h,fe a (by grind)⟩ (by omega))
    simp[-ai,ag,o,s,h,bx];omega
   .refine aE c [(63,ab),(75,ab),(77,ab)] 100 rfl ?_ (AK.ee (bZ.zero rfl ?_))
    .simp[-ai,ag,o,s,h,bx];omega
    .rw[dO h (by grind)];simp[ag]
 obtain rfl:i=w.2.2.length:=by omega
 rw[b6.2 a,dF];refine aE c [(31,ae)] 100 rfl (by simp[ag]) (AK.leaveD rfl rfl ?_)
 refine aE c [] 100 rfl ?_ (AK.bo rfl ?_)
 .simp[ag,cP.list_fn,cP.aH,cr.list_fn,cr.aH,cH.list_fn,cH.aH,m.sm,m.sN,m.pN]
 .simp[ag,cP.list_fn,cr.list_fn,cH.list_fn]
abbrev tr:dg:=ow aI (Yp YH) (λk w=>dB (fx k w)) λ_ w=>[OE w.1]
def yR:dD X 19 tr:=.qG λk w h=>CJ k w h
end
def yX{l:List Int}:∀ {k:Nat},(jU l k).length=k->∀ i,1<=i->i<k->l.getD i 0≠l.getD (i-1) 0
 |0,_,i,_,h=>by omega
 |k+1,h,i,a,d=>by
  have f:=sx l k;rw[jU] at h;split at h
  .omega
  .rename_i c
   simp only[bG,eh] at h
   by_cases e:i=k
   .subst e;exactλb=>c ⟨by omega,b⟩
   .exact yX (k:=k) (by omega) i a (by omega)
def AR(l:List Int):(mK l).Pairwise λx y=>x<=y:=by
 have:=List.pairwise_mergeSort (le:=λx y:Int=>decide (x<=y)) (λa b c e d=>by simp at *;omega) (λa b=>by simp;omega) l
 exact this.imp λh=>by simpa using h
def xd(l:List Int):(mK l).Perm l:=List.mergeSort_perm _ _
def AL(l:List Int):(dJ (mK l)).length=l.length↔l.Nodup:=by
 rw[<-gK l,<-(xd l).nodup_iff];have d:=AR l;generalize mK l=s at *;have b:∀ {i:Nat} (h:i<s.length),s.getD i 0=s[i]:=λ{i} h=>by rw[ai,bl h];rfl
 constructor
 .intro h;have c:=yX h;refine List.Pairwise.imp (R:=λx y=>x<y) (λh e=>by omega) (kU.2 λi j hi hj Wx=>?_)
  have a:=kU.1 d;have f:=c j (by omega) hj
  rw[b hj,b (by omega)] at f
  have g:=a (j-1) j (by omega) hj (by omega)
  by_cases e:i=j-1
  .subst e;omega
  .have:=a i (j-1) hi (by omega) (by omega);omega
 .intro h;unfold dJ;rw[nB (bc _),bY];intro i c a e;rw[b a,b (by omega)] at e
  have:=(kU.1 h) (i-1) i (by omega) a (by omega)
  exact this e.symm
def yY(n m:Int):∀ (l:List Int)(a:List Int)(b:Bool),(b=ab->n∈a) ->
  ((m∈(l.foldl (iG n) (a,b)).1∨(m=n/\(l.foldl (iG n) (a,b)).2=ae))↔((m∈a∨(m=n/\b=ae))∨m∈l))
 |[],a,b,_=>by simp
 |y::l,a,b,h=>by
  rw[ji];have one:∀ a' b',iG n (a,b) y=(a',b')->(b'=ab->n∈a')/\((m∈a'∨(m=n/\b'=ae))↔((m∈a∨(m=n/\b=ae))∨m=y)):=λa' b' e=>by
   unfold iG at e
   grind
  cases f:iG n (a,b) y with
  |mk a' b' =>
   obtain⟨d,c⟩:=one a' b' f;rw[yY n m l a' b' d,c,eY,or_assoc]
def LM{l:List Int}{n m:Int}:m∈kS l n↔m∈l∨m=n:=by
 have:=yY n m l [] ae (by simp)
 unfold kS
 grind
def tv{m:Int}:∀ {l a:List Int},m∈l.foldl kS a↔m∈a∨m∈l
 |[],a=>by simp
 |x::l,a=>by rw[ji,tv,LM,eY,or_assoc]
def EX{l:List gG}{m:Int}:m∈ff l↔m∈cf l:=by unfold ff;rw[tv];simp
def yZ{m:Int}:∀ {l:List cN}{a:List Int},m∈l.foldl (λout x=>(ff x.2).foldl kS out) a↔m∈a∨∃ x∈l,m∈cf x.2
 |[],a=>by simp
 |x::l,a=>by
  rw[ji,yZ,tv,EX,or_assoc];simp
def p6{l:List cN}{m:Int}:m∈fw l↔∃ x∈l,m∈cf x.2:=by unfold fw;rw[yZ];simp
def CQ{l:List Int}{m:Int}:∀ {j:Nat},j<=l.length->(m∈jU l j↔m∈l.take j)
 |0,_=>by simp[jU]
 |j+1,h=>by
  have b:=CQ (l:=l) (m:=m) (j:=j) (by omega)
  rw[jU,bu (by omega) 0]
  split
  .rename_i c
   rw[b,fR]
   constructor
   .exact .inl
   .rintro(a|a)
    .exact a
    .simp only[kW] at a;subst a;rw[c.2,ai,bl (by omega)]
     exact lH.2 ⟨j-1,by simp;omega,by simp⟩
  grind
def xe{x:cN}{m:Int}:m∈gY x↔m∈cf x.2:=by
 unfold gY dJ;rw[CQ (bc _),bY];exact(xd _).mem_iff
def Ia{l:List cN}{p:Int->Bool}:(fw l).all p=(bh l.length).all λi=>!(gY (l.getD i (0,[]))).any λn=>!p n:=by
 rw[nL,List.all_eq_true,b6]
 constructor
 .intro h i hi;rw[jg,List.any_eq_false];intro n a;have:=h n (p6.2 ⟨_,gO hi,xe.1 a⟩);simp[this]
 .intro h n a;obtain⟨x,c,d⟩:=p6.1 a;obtain⟨i,hi,rfl⟩:=lH.1 c;have b:=h i hi;rw[ai,bl hi,fG,jg,List.any_eq_false] at b;simpa using b n (xe.2 d)
def vi{α:Type}{l:List α}{i:Nat}(h:i<l.length)(d:α):l.getD i d=l[i]:=by grind
def vj{α:Type}{f:α->Int}{d:α}{l:List α}:(∀ i,i<l.length->CE f d l i=ab)↔l.Pairwise λx y=>f x<f y:=by
 constructor
 .intro h;have key:∀ n i j (hi:i<l.length) (a:j<l.length),j=i+n->0<n->f l[i]<f l[j]:=by
   intro n
   induction n with
   |zero=>intro i j _ _ _ h;omega
   |succ n g =>
    intro i j hi a b _;have c:=h j a;rw[mJ (by omega),decide_eq_true_iff,vi (by omega),vi a] at c
    by_cases e:n=0
    .subst e
     grind
    grind
  exact kU.2 λi j hi a b=>key (j-i) i j hi a (by omega) (by omega)
 .intro h i hi
  by_cases e:i=0
  .subst e;rfl
  .rw[mJ e,decide_eq_true_iff,vi (by omega),vi hi]
   exact(kU.1 h) (i-1) i (by omega) hi (by omega)
def p9{α:Type}{l:List α}{p:α->Bool}{d:α}:(∀ i,i<l.length->p (l.getD i d)=ab)↔∀ x∈l,p x=ab:=by
 constructor
 .intro h x a;obtain⟨i,hi,rfl⟩:=lH.1 a
  grind
 grind
structure Gl (k:Int)(p:bw):Prop where
 no:1<=p.1/\p.1<=99
 key:cA k=ab
 len:1<=p.2.length/\p.2.length<=4
 rt:∀ x∈p.2,right k x=ab
 CE:p.2.Pairwise λx y=>x.1<y.1
def xf{k:Int}{p:bw}:jq k p=ab↔Gl k p:=by
 rw[pv];simp only[bO,bd,b6];have e:(∀ i,i<p.2.length->iF k p i=ab)↔(∀ x∈p.2,right k x=ab)/\p.2.Pairwise λx y=>x.1<y.1:=by
  rw[<-p9 (d:=(0,[])),<-vj (f:=λx:cz=>x.1) (d:=(0,[]))]
  constructor
  .intro h;exact⟨λi hi=>by have:=h i hi;simp only[iF,bO] at this;exact this.1,λi hi=>by have:=h i hi;simp only[iF,bO] at this;exact this.2⟩
  .intro h i hi;simp only[iF,bO];exact⟨h.1 i hi,h.2 i hi⟩
 rw[e]
 constructor
 .rintro⟨⟨⟨b,c⟩,j⟩,a,g⟩;exact⟨b,c,j,a,g⟩
 .rintro⟨b,c,j,a,g⟩;grind
structure tw (k:Int)(s:a9):Prop where
 pk:∀ p∈s.1,Gl k p
 pa:s.1.Pairwise λp q=>p.1<q.1
 nd:(bU s.1).Nodup
 sn:∀ x∈s.2.1,(1<=x.1/\x.1<=20)/\(cG k x s.1).isSome=ab
 sa:s.2.1.Pairwise λx y=>x.1<y.1
 key:cA k=ab
 log:kR s.2.2=ab
 len:s.1.length<=20
def CR{k:Int}{s:a9}:gI k s=ab↔tw k s:=by
 unfold gI;simp only[bO,bd,b6];have r:(∀ i,i<s.1.length->l4 k s.1 i=ab)↔(∀ p∈s.1,Gl k p)/\s.1.Pairwise λp q=>p.1<q.1:=by
  rw[<-vj (f:=λp:bw=>p.1) (d:=(0,[]))]
  have:(∀ p∈s.1,Gl k p)↔∀ p∈s.1,jq k p=ab:=⟨λh p b=>xf.2 (h p b),λh p b=>xf.1 (h p b)⟩
  rw[this,<-p9 (d:=(0,[]))]
  constructor
  .intro h;exact⟨λi hi=>by have:=h i hi;simp only[l4,bO] at this;exact this.1,λi hi=>by have:=h i hi;simp only[l4,bO] at this;exact this.2⟩
  .intro h i hi;simp only[l4,bO];exact⟨h.1 i hi,h.2 i hi⟩
 have o:(∀ i,i<s.2.1.length->jT k s i=ab)↔(∀ x∈s.2.1,(1<=x.1/\x.1<=20)/\(cG k x s.1).isSome=ab)/\s.2.1.Pairwise λx y=>x.1<y.1:=by
  rw[<-vj (f:=λp:cN=>p.1) (d:=(0,[]))]
  have:(∀ x∈s.2.1,(1<=x.1/\x.1<=20)/\(cG k x s.1).isSome=ab)↔∀ x∈s.2.1,(decide (1<=x.1/\x.1<=20)&&(cG k x s.1).isSome)=ab:=by
   grind
  rw[this,<-p9 (d:=(0,[]))]
  constructor
  .intro h;exact⟨λi hi=>by have:=h i hi;simp only[jT,bO] at this ⊢;exact⟨this.1.1,this.2⟩,λi hi=>by have:=h i hi;simp only[jT,bO] at this;exact this.1.2⟩
  .intro h i hi;have a:=h.1 i hi;simp only[jT,bO] at a ⊢;exact⟨⟨a.1,h.2 i hi⟩,a.2⟩
 rw[r,o]
 constructor
 .rintro⟨⟨⟨⟨⟨⟨a,g⟩,n⟩,c,m⟩,e⟩,j⟩,l⟩;exact⟨a,g,n,c,m,e,j,l⟩
 .rintro⟨a,g,n,c,m,e,j,l⟩;grind
structure LN (k:Int)(w:cO):Prop extends tw k w.1 where
 mk':∀ x∈w.1.2.1,∀ n∈cf x.2,n∈w.2.1
 lp:∀ n∈w.2.2,∃ p∈w.1.1,p.1=n
 la:w.2.2.Pairwise λx y=>x<y
def ug{k:Int}{w:cO}:fx k w=ab↔LN k w:=by
 unfold fx;simp only[bO,CR,b6];have m:(fw w.1.2.1).all (λn=>w.2.1.contains n)=ab↔∀ x∈w.1.2.1,∀ n∈cf x.2,n∈w.2.1:=by
  rw[List.all_eq_true]
  constructor
  .intro h x e n a;simpa using h n (p6.2 ⟨x,e,a⟩)
  .intro h n a;obtain⟨x,e,a⟩:=p6.1 a;simpa using h x e n a
 have l:(∀ i,i<w.2.2.length->l6 w.1.1 w.2.2 i=ab)↔(∀ n∈w.2.2,∃ p∈w.1.1,p.1=n)/\w.2.2.Pairwise λx y=>x<y:=by
  rw[<-vj (f:=λn:Int=>n) (d:=0)]
  have:(∀ n∈w.2.2,∃ p∈w.1.1,p.1=n)↔∀ n∈w.2.2,(w.1.1.any λp=>p.1==n)=ab:=by simp
  rw[this,<-p9 (d:=0)]
  constructor
  .intro h;exact⟨λi hi=>by have:=h i hi;simp only[l6,bO] at this;exact this.1,λi hi=>by have:=h i hi;simp only[l6,bO] at this;exact this.2⟩
  .intro h i hi;simp only[l6,bO];exact⟨h.1 i hi,h.2 i hi⟩
 rw[m,l]
 constructor
 .rintro⟨⟨c,g,j⟩,b⟩;exact⟨b,c,g,j⟩
 .rintro⟨b,c,g,j⟩;exact⟨⟨c,g,j⟩,b⟩
def k9(no:Int)(ms:List Int)(p:bw):bw:=if p.1=no then ja p ms else p
def jr(no:Int)(ms:List Int)(ps:List bw):List bw:=(ps.map (k9 no ms)).filter λp=>!p.2.isEmpty
def AS(w:cO):cO:=match w.2.2 with
 |[]=>w
 |no::r=>((jr no w.2.1 w.1.1,w.1.2),w.2.1,r)
def tz{no:Int}{ms:List Int}{p:bw}:(k9 no ms p).1=p.1:=by unfold k9 ja;split <;> rfl
def EY{no:Int}{ms:List Int}{p:bw}:List.Sublist (k9 no ms p).2 p.2:=by unfold k9 ja;split <;> simp
def EZ{no:Int}{ms:List Int}{ps:List bw}{q:bw}(h:q∈jr no ms ps):∃ p∈ps,q=k9 no ms p/\q.2≠[]:=by
 unfold jr at h
 grind
abbrev AP(l:List bE):Prop:=l.Pairwise λa b=>bk a.1 b.1=ab
def xb{t:List bE}(h:dj t=ab):AP t:=by
 simp only[dj,bO] at h;have a:=b6.1 h.1;rw[AP,kU];intro i j hi hj Wx;rw[fileAt hi,fileAt hj];refine Vt (t:=t) (i:=j) (λk c b=>?_) i Wx
 have:=a k (by omega)
 simp only[gp,bO,mP,gR] at this;exact this.1.2.resolve_left (by omega)
def ue{t:List bE}:dj t=ab↔(∀ f∈t,dr f.1=ab/\dN f.2=ab)/\AP t/\t.Pairwise (λa b=>clash a.1 b.1=ae)/\t.length<=6:=by
 constructor
 .intro h;have n:=xb h;simp only[dj,bO,bd] at h;have c:=b6.1 h.1;refine⟨λf m=>?_,n,?_,h.2⟩
  .obtain⟨i,hi,rfl⟩:=dX m;have:=c i hi;simp only[gp,bO] at this;rw[fileAt hi];exact⟨this.1.1.1,this.1.1.2⟩
  .rw[kU];intro i j hi hj Wx;have:=c j hj;simp only[gp,bO] at this;have:=b6.1 this.2 i Wx;rw[fileAt hi,fileAt hj];simpa using this
 .rintro⟨k,l,o,g⟩;simp only[dj,bO,bd];refine⟨b6.2 λi hi=>?_,g⟩
  have d:=k _ (nH hi);rw[fileAt hi] at d;simp only[gp,bO,mP,gR];refine⟨⟨d,?_⟩,b6.2 λj hj=>?_⟩
  .by_cases e:i=0
   .exact .inl e
   .right
    have:=kU.1 l (i-1) i (by omega) hi (by omega)
    rw[fileAt (by omega),fileAt hi] at this
    exact this
  .have:=kU.1 o j i (by omega) hi hj
   rw[fileAt (by omega),fileAt hi] at this
   simp[this]
section
open Go.Proofs
variable {X:Cx ah}
def Cp{s r:Bs}(h:b8 s=ab)(a:∀ b∈r,b∈s):b8 r=ab:=by
 unfold b8 at h ⊢
 grind
def wS{t:Bs}(d:b8 t=ab):∀ k f,∀ p∈fb t k f,bL p=ab
 |0,_,p,a=>by simp[fb] at a
 |k+1,f,p,a=>by
  simp only[fb] at a;split at a
  .rename_i h
   have c:=nt t f h;rcases eY.1 a with rfl|a
   .have e:((t.drop f).take (cutAt t f-f)).length=cutAt t f-f:=by simp;omega
    simp only[bL,bO,bd];refine⟨⟨by omega,by omega⟩,Cp d λb c=>zg (iI c)⟩
   .exact wS d k _ p a
  .simp at a
def th{t:Bs}(a:b8 t=ab):∀ p∈pieces t,bL p=ab:=wS a _ _
def tV(t:Bs):∀ k f,(fb t k f).length<=k
 |0,_=>bc _
 |k+1,f=>by
  simp only[fb];split
  .have:=tV t k (cutAt t f);simp;omega
  .simp
def od(t:Bs):(pieces t).length<=t.length:=tV t _ _
def kq(t:List bE):List Bs:=t.flatMap λf=>pieces f.2
def HH{t:List bE}{i:Nat}(h:i<t.length):kq (t.take (i+1))=kq (t.take i)++pieces (t.getD i ([],[])).2:=by
 rw[bu h ([],[])];simp[kq]
def Oo(t:List bE)(i:Nat):(kq (t.take i)).length<=(kq t).length:=by
 have h:kq t=kq (t.take i)++kq (t.drop i):=by
  unfold kq;rw[<-nI,j0]
 rw[h,bG];omega
def yC(k:Int)(l:List dh)(ps:List Bs):∀ a:List Bs,(ps.foldl (nv k l) a).length<=a.length+ps.length:=by
 induction ps with
 |nil=>intro a;simp
 |cons p r b =>
  intro a;have c:=b (nv k l a p);have d:(nv k l a p).length<=a.length+1:=by unfold nv;split <;> simp
  grind
abbrev Ll:dg:=ow (aL oI) aI (λl n=>dI (tS l n)) λl _=>[l.length<=4000000]
def R5:dD X 157 Ll:=.qG λl n h=>KX l n h
abbrev PS:dg:=ow (aL cS) aS (λl p=>dB (l.contains p)) λl _=>[l.length<=4000000]
def Vs:dD X 158 PS:=.qG λl p h=>Of l p h
abbrev dV0(a:List Bs):D:=.e (.one (.vec 0 1 a.length (cS.fn a)))
structure wO (t:List bE):Prop where
 len:t.length<=4000000
 Aw:∀ f∈t,b8 f.2=ab/\f.2.length<=4000000
 all:(kq t).length<=100000
def La(k:Int)(t:List bE)(l:List dh)(q:cA k=ab)(r:wO t)(E:l.length<=4000000):Ev X 122 [dI k,cF.sl t,oI.sl l] [] (cS.sl (jR k t l)) []:=by
 refine Ev.bQ Tryz.func122 rfl λC=>?_
 have d:bD X [(156,F8),(118,Az),(157,Ll),(158,PS)]:=.cons K5 (.cons Au (.cons R5 (.cons Vs .nil)));refine aE d [(1000002,ab)] 200 rfl av ?_;refine AK.ix 7 9 1 rfl rfl ?_;refine aE d [] 200 rfl av ?_;refine AK.bJ 1 (λi=>i<=t.length) (λi:Nat=>[(0,dI k),(1,cF.sl t),(2,oI.sl l),(7,dV0 ((kq (t.take i)).foldl (nv k l) [])),(8,dI i)]) (λi=>[.vec 9 1 ((kq (t.take i)).foldl (nv k l) []).length (cS.fn ((kq (t.take i)).foldl (nv k l) []))]) (λi=>t.length-i) 0 rfl ?_ rfl ?_ rfl (by omega) ?_
 .simp[ag.cat,ag,aR.same,aR.nil,kq]
 .simp[ag.cat,ag,aR.same,aR.nil,kq]
 intro i hi
 by_cases h:i<t.length
 .have z:t.getD (i:Int).toNat cF.bC=t.getD i ([],[]):=by rw[bt];rfl
  have n:t.getD i ([],[])∈t:=by grind
  obtain⟨y,F⟩:=r.Aw _ n;have e:=HH h;have v:=Oo t (i+1);have x:=r.all;have B:=r.len;have s:=th y;generalize t.getD i ([],[])=f at *;rw[e,bG] at v;refine aE d [(15,ab)] 200 rfl ?_ ?_
  .simp only[ag,z,y,bd,aG,aF];and_intros <;> omega
  rw[z];refine AK.bJ 1 (λj=>j<=(pieces f.2).length) (λj:Nat=>[(0,dI k),(1,cF.sl t),(2,oI.sl l),(7,dV0 ((kq (t.take i)++(pieces f.2).take j).foldl (nv k l) [])),(8,dI i),(9,cS.sl (pieces f.2)),(10,dI j)]) (λj=>[.vec 9 1 ((kq (t.take i)++(pieces f.2).take j).foldl (nv k l) []).length (cS.fn ((kq (t.take i)++(pieces f.2).take j).foldl (nv k l) []))]) (λj=>(pieces f.2).length-j) 0 rfl ?_ rfl ?_ rfl (by omega) ?_
  .simp[ag.cat,ag,aR.same]
  .simp[ag.cat,ag,aR.same]
  intro j D;have o:=yC k l (kq (t.take i)++(pieces f.2).take j) [];simp only[gA,bG,List.length_take] at o
  by_cases A:j<(pieces f.2).length
  .have c:(pieces f.2).getD (j:Int).toNat cS.bC=(pieces f.2).getD j []:=by rw[bt];rfl
   have g:bL ((pieces f.2).getD j [])=ab:=s _ (by grind)
   have a:(kq (t.take i)++(pieces f.2).take (j+1)).foldl (nv k l) []=nv k l ((kq (t.take i)++(pieces f.2).take j).foldl (nv k l) []) ((pieces f.2).getD j []):=by
    rw[bu A [],<-ij,jC];rfl
   generalize (kq (t.take i)++(pieces f.2).take j).foldl (nv k l) []=out at *;generalize (pieces f.2).getD j []=p at *;have w:=cS.cm out p
   by_cases b:tS l (iX k p)=0
   .cases u:out.contains p with
    |true =>
     rw[nv,aY (by grind)] at a
     refine aE d [(27,ab),(38,ab),(45,ab)] 200 rfl ?_ (AK.aQ (j+1) rfl ?_ ?_ ?_ ?_)
     .simp only[ag,c,q,g,b,u,bx,cS.list_fn,oI.list_fn,ef,bd,aG,aF];and_intros <;> first|exact cS.aH _|exact oI.aH _|omega
     .rw[a];simp[ag.cat,ag,aR.same]
     .rw[a];simp[ag.cat,ag,aR.same]
     .show j+1<=_;omega
     .omega
    |false =>
     rw[nv,bg (by rw[u,b];rfl)] at a
     refine aE d [(27,ab),(38,ab),(45,ae)] 200 rfl ?_ (AK.aQ (j+1) rfl ?_ ?_ ?_ ?_)
     .simp only[ag,c,q,g,b,u,bx,show i9.bytes=16 from rfl,cS.list_fn,oI.list_fn,ef,bd,aG,aF];and_intros <;> first|exact cS.aH _|exact oI.aH _|omega
     .rw[a];simp only[ag.cat,ag,c,bG,eQ,gA,aG,aF]
      and_intros <;> first|exactλ_ _=>rfl|exact w|rfl|omega
     .rw[a];simp only[ag.cat,ag,c,bG,eQ,gA,aG,aF]
      and_intros <;> first|exact w|rfl|omega
     .show j+1<=_;omega
     .omega
   .rw[nv,aY (by simp[b])] at a
    refine aE d [(27,ab),(38,ae)] 200 rfl ?_ (AK.aQ (j+1) rfl ?_ ?_ ?_ ?_)
    .simp only[ag,c,q,g,bx,oI.list_fn,dv,cT,b,nK,bd,aG,aF];and_intros <;> first|exact oI.aH _|omega
    .rw[a];simp[ag.cat,ag,aR.same]
    .rw[a];simp[ag.cat,ag,aR.same]
    .show j+1<=_;omega
    .omega
  .have m:j=(pieces f.2).length:=by omega
   refine aE d [(27,ae)] 200 rfl (by simp only[ag,bR];omega) (AK.leaveD rfl rfl ?_)
   refine aE d [] 200 rfl ?_ (AK.aQ (i+1) rfl ?_ ?_ ?_ ?_)
   .simp only[ag,bx];omega
   .rw[e,m,bY];simp[ag.cat,ag,aR.same]
   .rw[e,m,bY];simp[ag.cat,ag,aR.same]
   .show i+1<=_;omega
   .omega
 .obtain rfl:i=t.length:=by omega
  rw[bY];refine aE d [(15,ae)] 200 rfl (by simp[ag]) (AK.leaveD rfl rfl ?_)
  refine aE d [] 200 rfl av (AK.bo rfl ?_);simp[ag,ag.cat,aR.same,jR,kq]
abbrev pr(k:Int)(ps:List Bs):List Int:=ps.map (iX k)
abbrev tk(k:Int)(t:List bE):List gG:=t.map (yL k)
abbrev PT(no:Int)(ls:List gG):List aW:=[.cells 59 [.c (.int .i64 0),.c (.sl ab 0 0 λ_=>[])],.cells 59 [.c (.int .i64 no),.vec 2 2 ls.length (cL.fn ls)],.vec 90 2 ls.length (cL.fn ls)]
def Oj(no k:Int)(t:List bE)(v:cA k=ab)(p:wO t):Ev X 125 [dI no,dI k,cF.sl t] [] (Ca (ko no k t)) []:=by
 refine Ev.iV tok Tryz.func125 rfl rfl rfl λA=>?_
 have a:bD X [(156,F8),(118,Az)]:=.cons K5 (.cons Au .nil);refine aE a [(1000002,ab)] 200 rfl av ?_;refine AK.gi 1 1 90 2 (cL.fn []) rfl rfl ?_;refine aE a [] 200 rfl av ?_;refine AK.bJ 3 (λi=>i<=t.length) (λi:Nat=>[(1,dI k),(2,cF.sl t),(6,.e (.one (.ptr 0 0))),(7,.e (.one (.ptr 1 0))),(8,dI i)]) (λi=>PT no (tk k (t.take i))) (λi=>t.length-i) 0 rfl ?_ rfl ?_ rfl (by omega) ?_
 .simp[ag.cat,ag,aR.same]
 .simp[ag.cat,ag,aR.same,aR.nil]
 intro i hi
 by_cases h:i<t.length
 .have n:t.getD (i:Int).toNat cF.bC=t.getD i ([],[]):=by rw[bt];rfl
  have d:t.getD i ([],[])∈t:=by grind
  obtain⟨q,B⟩:=p.Aw _ d;have z:=p.len;have o:=th q;have x:=od (t.getD i ([],[])).2;have g:tk k (t.take (i+1))=tk k (t.take i)++[yL k (t.getD i ([],[]))]:=by
   rw[bu h ([],[]),tk,me];rfl
  have y:(tk k (t.take i)).length=i:=by simp;omega
  generalize t.getD i ([],[])=f at *;generalize tk k (t.take i)=ls at *;refine aE a [(18,ab),(1000007,ab)] 200 rfl ?_ ?_
  .simp only[ag,n,q,bd,aG,aF];and_intros <;> omega
  rw[n];refine AK.ix 10 3 1 rfl rfl ?_;refine aE a [] 200 rfl av ?_;refine AK.bJ 4 (λj=>j<=(pieces f.2).length) (λj:Nat=>[(1,dI k),(2,cF.sl t),(6,.e (.one (.ptr 0 0))),(7,.e (.one (.ptr 1 0))),(8,dI i),(9,cS.sl (pieces f.2)),(10,.e (.one (.vec 3 1 j (cI.fn (pr k ((pieces f.2).take j)))))),(11,dI j)]) (λj=>PT no ls++[.vec 3 1 j (cI.fn (pr k ((pieces f.2).take j)))]) (λj=>(pieces f.2).length-j) 0 rfl ?_ rfl ?_ rfl (by omega) ?_
  .simp[ag.cat,ag,aR.same,aR.nil]
  .simp[ag.cat,ag,aR.same,aR.nil]
  intro j r
  by_cases w:j<(pieces f.2).length
  .have b:(pieces f.2).getD (j:Int).toNat cS.bC=(pieces f.2).getD j []:=by rw[bt];rfl
   have m:bL ((pieces f.2).getD j [])=ab:=o _ (by grind)
   have c:=cI.cm (pr k ((pieces f.2).take j)) (iX k ((pieces f.2).getD j []));rw[show (pr k ((pieces f.2).take j)).length=j by simp;omega,show pr k ((pieces f.2).take j)++[iX k ((pieces f.2).getD j [])]=pr k ((pieces f.2).take (j+1)) by rw[bu w [],pr,pr,me];rfl] at c
   refine aE a [(31,ab)] 200 rfl ?_ (AK.aQ (j+1) rfl ?_ ?_ ?_ ?_)
   .simp only[ag,b,v,m,bx,show i3.bytes=8 from rfl,bd,aG,aF];and_intros <;> omega
   .simp only[ag.cat,ag,b,aG,aF]
    and_intros <;> first|exactλ_ _=>rfl|exact c|rfl|omega
   .simp only[ag.cat,ag,b,aG,aF]
    and_intros <;> first|exactλ_ _=>rfl|exact c|rfl|omega
   .show j+1<=_;omega
   .omega
  .have l:j=(pieces f.2).length:=by omega
   rw[l,bY];have c:=cL.cm ls (yL k f);have s:ls.length+1=(ls++[yL k f]).length:=by simp
   have u:cL.enc (yL k f)=[C.str f.1,C.sl ae 1 (pieces f.2).length (cI.fn (pr k (pieces f.2)))]:=by
    show [C.str f.1,C.sl ae 1 (pr k (pieces f.2)).length (cI.fn (pr k (pieces f.2)))]=_
    grind
   rw[u,<-g] at c;rw[<-g] at s;refine aE a [(31,ae)] 200 rfl (by simp only[ag,bR];omega) (AK.leaveD rfl rfl ?_)
   refine aE a [] 200 rfl ?_ (AK.aQ (i+1) rfl ?_ ?_ ?_ ?_)
   .simp only[ag,bx,show i90.bytes=40 from rfl,aG,aF];and_intros <;> omega
   .simp[ag.cat,ag,aR.same]
   .simp only[ag.cat,ag,n,aG,aF]
    and_intros <;> first|exact aR.same|exact c|exact s|rfl
   .show i+1<=_;omega
   .omega
 .obtain rfl:i=t.length:=by omega
  rw[bY];refine aE a [(18,ae)] 200 rfl (by simp[ag]) (AK.leaveD rfl rfl ?_)
  refine aE a [] 200 rfl av ?_;refine AK.dk () [] rfl rfl rfl rfl rfl rfl rfl rfl ?_ rfl rfl rfl rfl (λj r=>absurd r (by simp))
  simp[ag,ag.cat,aR.same,ko]
def gn(f g:Nat->List C):cJ 0 f g=g:=by funext i;simp[cJ]
abbrev IQ(s:a9):aW:=.cells 27 [.c (.sl ae 2 s.1.length (cP.fn s.1)),.c (.sl ae 2 s.2.1.length (cr.fn s.2.1)),.c (.sl ae 2 s.2.2.length (cH.fn s.2.2))]
abbrev R6(s:a9)(i:Nat)(p:List bw)(j:Nat)(q:List cN):List aW:=[IQ s,.cells 27 [dm,dm,dm],.buf 55 2 i (cP.fn p),.buf 59 2 j (cr.fn q),.buf 86 2 s.2.2.length (cH.fn s.2.2),.cells 27 [.bp 2 (.sl i 2 0 i),.bp 3 (.sl j 2 0 j),.bp 4 (.sl s.2.2.length 2 0 s.2.2.length)]]
def HD(s:a9)(r:s.1.length<=4000000)(g:∀ p∈s.1,p.2.length<=4000000)(o:s.2.1.length<=4000000)(f:jQ s)(u:s.2.2.length<=4000000) :
  Ev X 41 [ey s] [] (.e (.agg [.bp 0 (.sl s.1.length 2 0 s.1.length),.bp 1 (.sl s.2.1.length 2 0 s.2.1.length),.bp 2 (.sl s.2.2.length 2 0 s.2.2.length)])) [.buf 55 2 s.1.length (cP.fn s.1),.buf 59 2 s.2.1.length (cr.fn s.2.1),.buf 86 2 s.2.2.length (cH.fn s.2.2)]:=by
 refine Ev.iV tok Tryz.func41 rfl rfl rfl λn=>?_
 refine aX [(1000001,ab)] 200 rfl av ?_;refine AK.region ?_;refine aX [] 5 rfl av ?_;refine AK.we 9 55 2 (cP.fn []) rfl ?_;refine AK.we 10 59 2 (cr.fn []) rfl ?_;refine AK.we 11 86 2 (cH.fn []) rfl ?_;refine dE rfl ?_ ?_
 .simp only[ag,show i86.bytes=16 from rfl,aG,aF];and_intros <;> omega
 refine AK.bJ 6 (λi=>i<=s.1.length) (λi:Nat=>[(1,.e (.one (.ptr 0 0))),(2,.e (.one (.ptr 1 0))),(3,.e (.one (.ptr 5 0))),(4,dI i)]) (λi=>R6 s i (s.1.take i) 0 []) (λi=>s.1.length-i) 0 rfl ?_ rfl ?_ rfl (by omega) ?_
 .simp[ag.cat,ag]
 .simp[ag.cat,ag,aR,gn];rfl
 intro i hi
 by_cases h:i<s.1.length
 .have d:s.1.getD i (0,[])∈s.1:=by grind
  have a:s.1.getD (i:Int).toNat cP.bC=s.1.getD i (0,[]):=by rw[bt];rfl
  have q:=g _ d;refine aX [(20,ab),(2000038,ab)] 200 rfl ?_ (AK.aQ (i+1) rfl ?_ ?_ ?_ ?_)
  .simp only[ag,a,bx,show i55.bytes=32 from rfl,show i88.bytes=24 from rfl,bd,gd,aG,aF];and_intros <;> omega
  .simp[ag.cat,ag]
  .have e:=cP.gH s.1 h (0,[]);simp only[ag.cat,ag,a,gn,br,aF,aG]
   and_intros <;> first|exactλ_ _=>rfl|exact e|rfl
  .show i+1<=_;omega
  .omega
 obtain rfl:i=s.1.length:=by omega
 rw[bY];refine aX [(20,ae)] 200 rfl (by simp[ag]) (AK.leaveD rfl rfl ?_)
 refine dE rfl av ?_;refine AK.bJ 6 (λi=>i<=s.2.1.length) (λi:Nat=>[(1,.e (.one (.ptr 0 0))),(2,.e (.one (.ptr 1 0))),(3,.e (.one (.ptr 5 0))),(5,dI i)]) (λi=>R6 s s.1.length s.1 i (s.2.1.take i)) (λi=>s.2.1.length-i) 0 rfl ?_ rfl ?_ rfl (by omega) ?_
 .simp[ag.cat,ag]
 .simp[ag.cat,ag,aR.same,aR]
 intro i hi
 by_cases h:i<s.2.1.length
 .have d:s.2.1.getD i (0,[])∈s.2.1:=by grind
  have a:s.2.1.getD (i:Int).toNat cr.bC=s.2.1.getD i (0,[]):=by rw[bt];rfl
  have q:=f _ d;have e:=cr.gH s.2.1 h (0,[]);generalize s.2.1.getD i (0,[])=x at *;refine aX [(47,ab),(1000010,ab)] 200 rfl ?_ ?_
  .simp only[ag,a,bd,gd,aG,aF];and_intros <;> omega
  rw[a];refine AK.gi 6 1 90 2 (cL.fn []) rfl rfl ?_;refine dE rfl av ?_;refine AK.bJ 8 (λj=>j<=x.2.length) (λj:Nat=>[(1,.e (.one (.ptr 0 0))),(2,.e (.one (.ptr 1 0))),(3,.e (.one (.ptr 5 0))),(5,dI i),(6,.e (.one (.ptr 6 0))),(7,dI j)]) (λj=>R6 s s.1.length s.1 i (s.2.1.take i)++[.cells 59 [.c (.int .i64 x.1),.vec 7 2 j (cL.fn (x.2.take j))],.vec 90 2 j (cL.fn (x.2.take j))]) (λj=>x.2.length-j) 0 rfl ?_ rfl ?_ rfl (by omega) ?_
  .simp[ag.cat,ag]
  .simp[ag.cat,ag,aR.same,aR]
  intro j k
  by_cases m:j<x.2.length
  .have b:x.2.getD (j:Int).toNat cL.bC=x.2.getD j ([],[]):=by rw[bt];rfl
   have t:=q.2 (x.2.getD j ([],[])) (by grind)
   have l:=cL.gH x.2 m ([],[]);refine aX [(66,ab),(2000085,ab)] 200 rfl ?_ (AK.aQ (j+1) rfl ?_ ?_ ?_ ?_)
   .simp only[ag,a,b,bx,show i90.bytes=40 from rfl,show i3.bytes=8 from rfl,bd,gd,aG,aF];and_intros <;> omega
   .simp[ag.cat,ag]
   .simp only[ag.cat,ag,a,b,gn,br,aF,aG]
    and_intros <;> first|exactλ_ _=>rfl|exact l|rfl
   .show j+1<=_;omega
   .omega
  obtain rfl:j=x.2.length:=by omega
  rw[bY];refine aX [(66,ae)] 200 rfl ?_ (AK.leaveD rfl rfl ?_)
  .simp only[ag,a,bR];and_intros <;> omega
  refine dE rfl ?_ (AK.aQ (i+1) rfl ?_ ?_ ?_ ?_)
  .simp only[ag,a,bx,show i59.bytes=32 from rfl,aG,aF];and_intros <;> omega
  .simp[ag.cat,ag]
  .simp only[ag.cat,ag,aF,aG]
   and_intros <;> first|exactλ_ _=>rfl|exact e|rfl
  .show i+1<=_;omega
  .omega
 obtain rfl:i=s.2.1.length:=by omega
 rw[bY];refine aX [(47,ae)] 200 rfl (by simp[ag]) (AK.leaveD rfl rfl ?_)
 refine dE rfl av ?_;refine AK.dk () [2,3,4] rfl rfl rfl rfl rfl rfl rfl rfl ?_ rfl rfl rfl rfl (λj k=>absurd k (by simp))
 .simp[ag.cat,ag,aR.same]
def Lm{o:aw}{j:an->D}{σ:List aW}{x y:an}{k:Array ar}{a b:Int} (m:Int)(h:o.op=.call { callee:=.builtin .max,args:=#[x,y],argTypes:=k })(l:j x=dI a)(n:j y=dI b)(q:max a b=m)(p:bx .i64 m):bF ah o j σ (dI m) σ:=by
 refine .quiet λs ρ r c=>?_
 have d:=c x;have g:=c y;rw[l] at d;rw[n] at g
 replace d:=fC d
 replace g:=fC g
 generalize i:ρ x=vx at d;generalize f:ρ y=vy at g;cases d;cases g;have e:(if a<b then b else a)=m:=by
  rw[<-q];split <;> omega
 exact⟨.int .i64 m,by simp[ay,h,resolve,invoke,builtin,i,f,Builtin.max_,Builtin.max2,e],.int p,by simp[ay,h,resolve,invoke,builtin,i,f,Builtin.max_,Builtin.max2]⟩
def iA(s:a9):Int:=if s.1.length=0 then 1 else (s.1.getD (s.1.length-1) (0,[])).1+1
def pt(l:List (Int×Int)):Int:=l.foldl (λm h=>max m (h.2+1)) 1
def fD(s:a9):Int:=if s.2.1.length=0 then pt s.2.2 else max (pt s.2.2) ((s.2.1.getD (s.2.1.length-1) (0,[])).1+1)
structure R0 (st:a9):Prop where
 p:∀ x∈st.1,-4000000<=x.1/\x.1<=4000000
 s:∀ x∈st.2.1,-4000000<=x.1/\x.1<=4000000
 h:∀ x∈st.2.2,-4000000<=x.2/\x.2<=4000000
def sd(l:List (Int×Int))(h:∀ x∈l,-4000000<=x.2/\x.2<=4000000):1<=pt l/\pt l<=4000001:=by
 have:∀ (l:List (Int×Int)) (m:Int),(∀ x∈l,-4000000<=x.2/\x.2<=4000000)->1<=m->m<=4000001->1<=l.foldl (λm h=>max m (h.2+1)) m/\l.foldl (λm h=>max m (h.2+1)) m<=4000001:=by
  intro l
  induction l with
  |nil=>intro m _ b a;exact⟨b,a⟩
  |cons x r c =>
   grind
 exact this l 1 h (by omega) (by omega)
def EG{l:List (Int×Int)}{i:Nat}(h:i<l.length):pt (l.take (i+1))=max (pt (l.take i)) ((l.getD i (0,0)).2+1):=by
 unfold pt;rw[bu h (0,0),jC];rfl
def iD{α:Type}{l:List α}{i:Nat}(h:i<l.length)(d:α):l.getD i d∈l:=by
 grind
def Hx(s:a9)(d:dL s)(b:R0 s):Ev X 121 [ey s] [] (.eN [.one (.c (.int .i64 (iA s))),.one (.c (.int .i64 (fD s)))]) []:=by
 refine Ev.bQ Tryz.func121 rfl λo=>?_
 have n:=d.p;have m:=d.sn;have g:=d.h
 apply AK.join [(1,.e (.one (.ptr 0 0))),(4,dI (iA s)),(5,dI 1)] [IQ s]
 .intro out
  by_cases h:s.1.length=0
  .refine aX [(10,ae),(1000005,ab)] 200 rfl (by simp only[ag,bR];omega) ?_
   exact out _ _ rfl (by simp[ag.cat,ag,iA,h])
  .have f:=b.p _ (iD (show s.1.length-1<s.1.length by omega) (0,[]))
   have a:s.1.getD ((s.1.length:Int)-1).toNat cP.bC=s.1.getD (s.1.length-1) (0,[]):=by rw[show ((s.1.length:Int)-1).toNat=s.1.length-1 by omega];rfl
   refine aX [(10,ab),(1000005,ab)] 200 rfl ?_ ?_
   .simp only[ag,a,bx,bd,aG,aF];and_intros <;> omega
   exact out _ _ rfl (by simp only[ag.cat,ag,iA,aY h,a,aG,aF])
 refine dE rfl av ?_;refine AK.bJ 1 (λi=>i<=s.2.2.length) (λi:Nat=>[(1,.e (.one (.ptr 0 0))),(4,dI (iA s)),(5,dI (pt (s.2.2.take i))),(6,dI i)]) (λi=>[IQ s]) (λi=>s.2.2.length-i) 0 rfl ?_ rfl ?_ rfl (by omega) ?_
 .simp[ag.cat,ag,pt]
 .simp[ag.cat,ag,aR.same]
 intro i hi
 by_cases h:i<s.2.2.length
 .have f:=b.h _ (iD h (0,0));have j:=sd (s.2.2.take i) λx k=>b.h x (iI k)
  have a:s.2.2.getD (i:Int).toNat cH.bC=s.2.2.getD i (0,0):=by rw[bt];rfl
  have l:=EG h;refine aX [(25,ab)] 200 rfl ?_ ?_
  .simp only[ag,a,bx,bd,aG,aF];and_intros <;> omega
  rw[a];refine AK.law (Lm (pt (s.2.2.take (i+1))) rfl rfl rfl l.symm (by simp only[bx];omega)) rfl rfl ?_
  refine dE rfl ?_ (AK.aQ (i+1) rfl ?_ ?_ ?_ ?_)
  .simp only[ag,bx];omega
  .simp[ag.cat,ag]
  .simp[ag.cat,ag,aR.same]
  .show i+1<=_;omega
  .omega
 obtain rfl:i=s.2.2.length:=by omega
 rw[bY];refine aX [(25,ae)] 200 rfl (by simp[ag]) (AK.leaveD rfl rfl ?_)
 have j:=sd s.2.2 b.h
 by_cases h:s.2.1.length=0
 .refine aX [(40,ae)] 200 rfl (by simp only[ag,bR];omega) (AK.bo rfl ?_)
  simp[ag.cat,ag,fD,h]
 .have f:=b.s _ (iD (show s.2.1.length-1<s.2.1.length by omega) (0,[]))
  have a:s.2.1.getD ((s.2.1.length:Int)-1).toNat cr.bC=s.2.1.getD (s.2.1.length-1) (0,[]):=by rw[show ((s.2.1.length:Int)-1).toNat=s.2.1.length-1 by omega];rfl
  refine aX [(40,ab)] 200 rfl ?_ ?_
  .simp only[ag,a,bx,bd,aG,aF];and_intros <;> omega
  rw[a];refine AK.law (Lm (fD s) rfl rfl rfl (by rw[fD,aY h]) (by rw[fD,aY h];simp only[bx];omega)) rfl rfl ?_
  refine dE rfl av (AK.bo rfl ?_);simp[ag.cat,ag]
abbrev R7(s:a9)(i:Nat)(p:List bw)(j:Nat)(q:List cN):List aW:=[IQ s,.cells 27 [dm,dm,dm],.vec 86 2 s.2.2.length (cH.fn s.2.2),.cells 27 [.vec 4 2 i (cP.fn p),.vec 5 2 j (cr.fn q),.vec 2 2 s.2.2.length (cH.fn s.2.2)],.vec 55 2 i (cP.fn p),.vec 59 2 j (cr.fn q)]
def fp(s:a9)(r:s.1.length<=4000000)(g:∀ p∈s.1,p.2.length<=4000000)(o:s.2.1.length<=4000000)(f:jQ s)(u:s.2.2.length<=4000000) :
  Ev X 41 [ey s] [] (.e (.agg [.vec 0 2 s.1.length (cP.fn s.1),.vec 1 2 s.2.1.length (cr.fn s.2.1),.vec 2 2 s.2.2.length (cH.fn s.2.2)])) [.vec 55 2 s.1.length (cP.fn s.1),.vec 59 2 s.2.1.length (cr.fn s.2.1),.vec 86 2 s.2.2.length (cH.fn s.2.2)]:=by
 refine Ev.iV tok Tryz.func41 rfl rfl rfl λn=>?_
 refine aX [(1000002,ab)] 200 rfl ?_ ?_
 .simp only[ag,show i86.bytes=16 from rfl,aG,aF,gd];and_intros <;> omega
 refine AK.gi 3 0 55 2 (cP.fn []) rfl rfl ?_;refine AK.gi 3 1 59 2 (cr.fn []) rfl rfl ?_;refine dE rfl av ?_;refine AK.bJ 6 (λi=>i<=s.1.length) (λi:Nat=>[(1,.e (.one (.ptr 0 0))),(2,.e (.one (.ptr 1 0))),(3,.e (.one (.ptr 3 0))),(4,dI i)]) (λi=>R7 s i (s.1.take i) 0 []) (λi=>s.1.length-i) 0 rfl ?_ rfl ?_ rfl (by omega) ?_
 .simp[ag.cat,ag]
 .simp[ag.cat,ag,aR,gn]
 intro i hi
 by_cases h:i<s.1.length
 .have d:s.1.getD i (0,[])∈s.1:=by grind
  have a:s.1.getD (i:Int).toNat cP.bC=s.1.getD i (0,[]):=by rw[bt];rfl
  have q:=g _ d;refine aX [(20,ab),(2000038,ab)] 200 rfl ?_ (AK.aQ (i+1) rfl ?_ ?_ ?_ ?_)
  .simp only[ag,a,bx,show i55.bytes=32 from rfl,show i88.bytes=24 from rfl,bd,gd,aG,aF];and_intros <;> omega
  .simp[ag.cat,ag]
  .have e:=cP.gH s.1 h (0,[]);simp only[ag.cat,ag,a,gn,br,aF,aG]
   and_intros <;> first|exactλ_ _=>rfl|exact e|rfl|omega
  .show i+1<=_;omega
  .omega
 obtain rfl:i=s.1.length:=by omega
 rw[bY];refine aX [(20,ae)] 200 rfl (by simp[ag]) (AK.leaveD rfl rfl ?_)
 refine dE rfl av ?_;refine AK.bJ 6 (λi=>i<=s.2.1.length) (λi:Nat=>[(1,.e (.one (.ptr 0 0))),(2,.e (.one (.ptr 1 0))),(3,.e (.one (.ptr 3 0))),(5,dI i)]) (λi=>R7 s s.1.length s.1 i (s.2.1.take i)) (λi=>s.2.1.length-i) 0 rfl ?_ rfl ?_ rfl (by omega) ?_
 .simp[ag.cat,ag]
 .simp[ag.cat,ag,aR.same,aR]
 intro i hi
 by_cases h:i<s.2.1.length
 .have d:s.2.1.getD i (0,[])∈s.2.1:=by grind
  have a:s.2.1.getD (i:Int).toNat cr.bC=s.2.1.getD i (0,[]):=by rw[bt];rfl
  have q:=f _ d;have e:=cr.gH s.2.1 h (0,[]);generalize s.2.1.getD i (0,[])=x at *;refine aX [(47,ab),(1000010,ab)] 200 rfl ?_ ?_
  .simp only[ag,a,bd,gd,aG,aF];and_intros <;> omega
  rw[a];refine AK.gi 6 1 90 2 (cL.fn []) rfl rfl ?_;refine dE rfl av ?_;refine AK.bJ 8 (λj=>j<=x.2.length) (λj:Nat=>[(1,.e (.one (.ptr 0 0))),(2,.e (.one (.ptr 1 0))),(3,.e (.one (.ptr 3 0))),(5,dI i),(6,.e (.one (.ptr 6 0))),(7,dI j)]) (λj=>R7 s s.1.length s.1 i (s.2.1.take i)++[.cells 59 [.c (.int .i64 x.1),.vec 7 2 j (cL.fn (x.2.take j))],.vec 90 2 j (cL.fn (x.2.take j))]) (λj=>x.2.length-j) 0 rfl ?_ rfl ?_ rfl (by omega) ?_
  .simp[ag.cat,ag]
  .simp[ag.cat,ag,aR.same,aR]
  intro j k
  by_cases m:j<x.2.length
  .have b:x.2.getD (j:Int).toNat cL.bC=x.2.getD j ([],[]):=by rw[bt];rfl
   have t:=q.2 (x.2.getD j ([],[])) (by grind)
   have l:=cL.gH x.2 m ([],[]);refine aX [(66,ab),(2000085,ab)] 200 rfl ?_ (AK.aQ (j+1) rfl ?_ ?_ ?_ ?_)
   .simp only[ag,a,b,bx,show i90.bytes=40 from rfl,show i3.bytes=8 from rfl,bd,gd,aG,aF];and_intros <;> omega
   .simp[ag.cat,ag]
   .simp only[ag.cat,ag,a,b,gn,br,aF,aG]
    and_intros <;> first|exactλ_ _=>rfl|exact l|rfl
   .show j+1<=_;omega
   .omega
  obtain rfl:j=x.2.length:=by omega
  rw[bY];refine aX [(66,ae)] 200 rfl ?_ (AK.leaveD rfl rfl ?_)
  .simp only[ag,a,bR];and_intros <;> omega
  refine dE rfl ?_ (AK.aQ (i+1) rfl ?_ ?_ ?_ ?_)
  .simp only[ag,a,bx,show i59.bytes=32 from rfl,aG,aF];and_intros <;> omega
  .simp[ag.cat,ag]
  .simp only[ag.cat,ag,aF,aG]
   and_intros <;> first|exactλ_ _=>rfl|exact e|rfl|omega
  .show i+1<=_;omega
  .omega
 obtain rfl:i=s.2.1.length:=by omega
 rw[bY];refine aX [(47,ae)] 200 rfl (by simp[ag]) (AK.leaveD rfl rfl ?_)
 refine dE rfl av ?_;refine AK.dk () [4,5,2] rfl rfl rfl rfl rfl rfl rfl rfl ?_ rfl rfl rfl rfl (λj k=>absurd k (by simp))
 .simp[ag.cat,ag,aR.same]
def _root_.Go.AM.hZ.yA{α:Type}(c:hZ α)(l:List α){n:Nat}{es:Nat->List C}(a:aR n es (c.fn l))(hn:n<=l.length):c.list n es=l.take n:=by
 apply pC
 .simp[hZ.list];omega
 .intro i h1 h2;have hi:i<n:=by simpa[hZ.list] using h1
  simp[hZ.list,a i hi,hZ.fn,sH,ai,bl (show i<l.length by omega),c.inv]
def _root_.Go.AM.hZ.F9{α:Type}(c:hZ α)(l:List α){n:Nat}{es:Nat->List C}(a:aR n es (c.fn l)):c.fits n es:=λi hi=>by
 rw[a i hi];exact c.aH l i (Nat.lt_succ_self i)
def K6(a b:Nat):min (a:Int) (b:Int)=((min a b:Nat):Int):=by
 grind
def gV(k:Int):Nat->Int->List Bs->List bw
 |0,_,_=>[]
 |f+1,no,ps=>if 0<ps.length then kQ no k (ps.take 4)::gV k f (no+1) (ps.drop 4) else []
def yB(k:Int)(s:a9)(t:List bE):List bw:=gV k (jR k t (indexOf s.1)).length (iA s) (jR k t (indexOf s.1))
def jW(k:Int)(s:a9)(t:List bE):Bool:=decide (20<s.1.length+(yB k s t).length)||(decide (99<iA s+(yB k s t).length-1)||(decide (20<fD s)||decide (9<=s.2.2.length)))
def mH(k:Int)(s:a9) (by_:Int)(t:List bE):a9:=(s.1++yB k s t,s.2.1++[ko (fD s) k t],s.2.2++[(by_,fD s)])
def wN(k:Int):∀ f no ps,(gV k f no ps).length<=f
 |0,_,_=>bc _
 |f+1,no,ps=>by
  simp only[gV];split
  .have:=wN k f (no+1) (ps.drop 4);simp;omega
  .simp
abbrev K7:dg:=Di aI aI (aL cS) (λno k ps=>vf (kQ no k ps)) λ_ k ps=>[cA k=ab,∀ p∈ps,bL p=ab,ps.length<=4000000]
def RY:dD X 124 K7:=.IN λno k ps h=>K8 no k ps h.1 h.2.1 h.2.2
abbrev PN:dg:=Di aI aI (aL cF) (λno k t=>Ca (ko no k t)) λ_ k t=>[cA k=ab,wO t]
def Vk:dD X 125 PN:=.IN λno k t h=>Oj no k t h.1 h.2
abbrev K9:dg:=Di aI (aL cF) (aL oI) (λk t l=>cS.sl (jR k t l)) λk t l=>[cA k=ab,wO t,l.length<=4000000]
def RZ:dD X 122 K9:=.IN λk t l h=>La k t l h.1 h.2.1 h.2.2
def wP{k:Int}{t:List bE}{l:List dh}(c:wO t):(∀ p∈jR k t l,bL p=ab)/\(jR k t l).length<=100000:=by
 constructor
 .have:∀ (ps a:List Bs),(∀ p∈ps,bL p=ab)->(∀ p∈a,bL p=ab)->∀ p∈ps.foldl (nv k l) a,bL p=ab:=by
   intro ps
   induction ps with
   |nil=>intro a _ h;exact h
   |cons q r i =>
    intro a d e;refine i _ (λp b=>d p (uN _ b)) λp b=>?_
    unfold nv at b
    grind
  refine this _ [] (λp b=>?_) (by simp)
  obtain⟨f,g,b⟩:=List.mem_flatMap.1 b;exact th (c.Aw f g).1 p b
 .have:=yC k l (kq t) [];have e:=c.all;unfold jR;simp only[gA] at this;exact ez this (by omega)
def Cj{l:List bw}(h:(fj l).length<=100000):(indexOf l).length<=100000:=by
 unfold indexOf;split
 .have:=yD (fj l) []
  grind
 .simp
abbrev Yv(k by_ no:Int)(s:a9)(t:List bE)(rest:List Bs):Fr:=[(0,dI k),(2,dI by_),(3,cF.sl t),(5,.e (.one (.ptr 0 0))),(8,.e (.one (.ptr 1 0))),(10,.e (.one (.ptr 5 0))),(11,dI no),(12,dI (fD s)),(13,cS.sl rest)]
abbrev Vl(s:a9)(ps:List bw):List aW:=[IQ s,.cells 27 [dm,dm,dm],.vec 55 2 ps.length (cP.fn ps),.vec 59 2 s.2.1.length (cr.fn s.2.1),.vec 86 2 s.2.2.length (cH.fn s.2.2),.cells 27 [.vec 2 2 ps.length (cP.fn ps),.vec 3 2 s.2.1.length (cr.fn s.2.1),.vec 4 2 s.2.2.length (cH.fn s.2.2)]]
abbrev tSt(s:a9)(b:Bool):D:=.eN [.agg [.c (.sl ae 2 s.1.length (cP.fn s.1)),.c (.sl ae 2 s.2.1.length (cr.fn s.2.1)),.c (.sl ae 2 s.2.2.length (cH.fn s.2.2))],.one (.c (.bool b))]
def Hw(k:Int)(s:a9) (by_:Int)(t:List bE)(o:cA k=ab)(a:dL s)(j:R0 s)(g:wO t)(n:(fj s.1).length<=100000) :
  Ev X 106 [dI k,ey s,dI by_,cF.sl t] [] (tSt (if jW k s t=ab then s else mH k s by_ t) (!jW k s t)) []:=by
 refine Ev.gy Tryz.func106 rfl rfl rfl λO=>?_
 have c:bD X [(123,Lb),(122,K9),(124,K7),(125,PN)]:=.cons R2 (.cons RZ (.cons RY (.cons Vk .nil)));have P:=a.p;have Q:=a.sn;have R:=a.h;have F:=Cj n;refine aE c [] 200 rfl av ?_;refine AK.cQ (fp s a.p a.p2 a.sn a.s2 a.h) [] rfl ?_;refine aE c [] 200 rfl av ?_;refine AK.cQ (Hx s a j) [] rfl ?_;refine aE c [] 200 rfl ?_ ?_
 .simp only[ag,cP.list_fn,oI.list_fn,cF.list_fn,o,g]
  and_intros <;> first|exact cP.aH _|exact oI.aH _|exact cF.aH _|trivial|exact g|omega
 simp only[cP.list_fn,oI.list_fn,cF.list_fn];obtain⟨r,u⟩:=wP (k:=k) (l:=indexOf s.1) g;have z:yB k s t=gV k (jR k t (indexOf s.1)).length (iA s) (jR k t (indexOf s.1)):=rfl;generalize jR k t (indexOf s.1)=pc at *;generalize y:yB k s t=np at *;have K:-4000000<=iA s/\iA s<=4000001:=by
  unfold iA;split
  .omega
  .rename_i h
   have:=j.p _ (iD (show s.1.length-1<s.1.length by omega) (0,[]))
   omega
 have B:np.length<=100000:=by rw[z];exact ez (wN k _ _ _) u
 refine AK.kM (S2:=Unit) 0 rfl rfl (λ_=>True) (λ_=>[(0,dI k),(2,dI by_),(3,cF.sl t),(5,.e (.one (.ptr 0 0))),(8,.e (.one (.ptr 1 0))),(10,.e (.one (.ptr 5 0))),(11,dI (iA s+np.length)),(12,dI (fD s))]) (λ_=>Vl s (s.1++np)) 6
  (λx:List Bs×List bw=>(∀ p∈x.1,bL p=ab)/\x.2.length+x.1.length<=5000000/\s.1.length<=x.2.length/\∃ f,x.1.length<=f/\s.1++np=x.2++gV k f (iA s+(x.2.length-s.1.length:Nat)) x.1) (λx=>Yv k by_ (iA s+(x.2.length-s.1.length:Nat)) s t x.1) (λx=>Vl s x.2) (λx=>x.1.length) (pc,s.1) rfl ?_ rfl ?_ rfl ⟨r,by simp only;omega,bc _,pc.length,bc _,by simp[z]⟩ ?_ ?_
 .simp[ag.cat,ag,aR.same]
 .simp[ag.cat,ag,aR.same]
 .rintro out ⟨rest,ps⟩ ⟨q,g2,g3,f,g4,g5⟩;simp only at q g2 g3 g4 g5
  by_cases h:0<rest.length
  .obtain⟨f,rfl⟩:∃ L,f=L+1:=⟨f-1,by omega⟩
   simp only[gV,bg h] at g5;have E:bx .i64 ((min rest.length 4:Nat):Int):=by simp only[bx];omega
   refine aE c [(30,ab)] 200 rfl (by simp only[ag,bd];omega) ?_
   refine AK.law (Ae ((min rest.length 4:Nat):Int) rfl rfl rfl (K6 rest.length 4) E) rfl rfl ?_;have A:cS.list (cn rest.length (aa ((min rest.length 4:Nat):Int))-cn 0 af) (jJ (cn 0 af) (cS.fn rest))=rest.take 4:=by
    have w:cn rest.length (aa ((min rest.length 4:Nat):Int))-cn 0 af=min rest.length 4:=by simp[cn]
    rw[w,cS.yA rest (λi hi=>by simp[jJ,cn]) (by omega)]
    grind
   have G:cS.fits (cn rest.length (aa ((min rest.length 4:Nat):Int))-cn 0 af) (jJ (cn 0 af) (cS.fn rest)):=cS.F9 rest (λi hi=>by simp[jJ,cn])
   have I:aR (rest.length-min rest.length 4) (jJ (min rest.length 4) (cS.fn rest)) (cS.fn (rest.drop 4)):=by
    intro i hi;have J:min rest.length 4=4:=by omega
    rw[J];simp only[jJ,hZ.fn,sH,ai,oO]
   have v:∀ p∈rest.take 4,bL p=ab:=λp m=>q p (iI m)
   have C:=cP.cm ps (kQ (iA s+(ps.length-s.1.length:Nat)) k (rest.take 4));refine aE c [] 200 rfl ?_ (AK.aQ (rest.drop 4,ps++[kQ (iA s+(ps.length-s.1.length:Nat)) k (rest.take 4)]) rfl ?_ ?_ ?_ ?_)
   .simp only[ag,bx,A,o,G,List.length_take,show i55.bytes=32 from rfl,aG,aF]
    and_intros <;> first|exact v|omega
   .simp only[ag.cat,ag,bG,eQ,gA,mO,cn,bt,aG,aF]
    and_intros <;> first|rfl|omega|exactλ_ _=>rfl|exact I
   .simp only[ag.cat,ag,A,bG,eQ,gA,aG,aF]
    and_intros <;> first|rfl|exactλ_ _=>rfl|exact C|omega
   .refine⟨λp m=>q p (zg m),by grind,by grind,f,by simp only[mO];omega,?_⟩
    grind
   .simp only[mO];omega
  .have e:ps=s.1++np:=by
    rw[g5];cases f <;> simp[gV,h]
   refine aE c [(30,ae)] 200 rfl (by simp only[ag,bR];omega) (AK.leaveD rfl rfl ?_)
   refine out () av rfl ?_ rfl ?_
   .simp only[ag.cat,ag,e,bG,aG,aF]
    and_intros <;> first|rfl|omega|exactλ_ _=>rfl
   .simp[ag.cat,ag,aR.same,e]
 rintro⟨⟩ -;have d:jW k s t=(decide (20<s.1.length+np.length)||(decide (99<iA s+np.length-1)||(decide (20<fD s)||decide (9<=s.2.2.length)))):=by unfold jW;rw[y]
 have D:-4000000<=fD s/\fD s<=4000001:=by
  have:=sd s.2.2 j.h;unfold fD;split
  .omega
  .rename_i h
   have:=j.s _ (iD (show s.2.1.length-1<s.2.1.length by omega) (0,[]))
   omega
 have N:(s.1++np).length=s.1.length+np.length:=bG
 by_cases M:20<s.1.length+np.length
 .have b:jW k s t=ab:=by rw[d];simp[M]
  rw[b];refine aE c [(53,ab)] 200 rfl ?_ ?_
  .simp only[ag,bG,bx,bd,bR,aG,aF];and_intros <;> omega
  refine AK.cQ (fp s a.p a.p2 a.sn a.s2 a.h) [] rfl ?_;refine aE c [] 200 rfl av ?_;refine AK.freeze 8 1 rfl rfl rfl ?_;refine AK.mW tok [] rfl ?_ rfl rfl rfl iY;simp[ag.cat,ag,aR.same]
 by_cases c2:99<iA s+np.length-1
 .have b:jW k s t=ab:=by rw[d];simp[c2]
  rw[b];refine aE c [(53,ae),(57,ab)] 200 rfl ?_ ?_
  .simp only[ag,bG,bx,bd,bR,aG,aF];and_intros <;> omega
  refine AK.cQ (fp s a.p a.p2 a.sn a.s2 a.h) [] rfl ?_;refine aE c [] 200 rfl av ?_;refine AK.freeze 8 1 rfl rfl rfl ?_;refine AK.mW tok [] rfl ?_ rfl rfl rfl iY;simp[ag.cat,ag,aR.same]
 by_cases c3:20<fD s
 .have b:jW k s t=ab:=by rw[d];simp[c3]
  rw[b];refine aE c [(53,ae),(57,ae),(61,ab)] 200 rfl ?_ ?_
  .simp only[ag,bG,bx,bd,bR,aG,aF];and_intros <;> omega
  refine AK.cQ (fp s a.p a.p2 a.sn a.s2 a.h) [] rfl ?_;refine aE c [] 200 rfl av ?_;refine AK.freeze 8 1 rfl rfl rfl ?_;refine AK.mW tok [] rfl ?_ rfl rfl rfl iY;simp[ag.cat,ag,aR.same]
 by_cases c4:9<=s.2.2.length
 .have b:jW k s t=ab:=by rw[d];simp[c4]
  rw[b];refine aE c [(53,ae),(57,ae),(61,ae),(67,ab)] 200 rfl ?_ ?_
  .simp only[ag,bG,bx,bd,bR,aG,aF];and_intros <;> omega
  refine AK.cQ (fp s a.p a.p2 a.sn a.s2 a.h) [] rfl ?_;refine aE c [] 200 rfl av ?_;refine AK.freeze 8 1 rfl rfl rfl ?_;refine AK.mW tok [] rfl ?_ rfl rfl rfl iY;simp[ag.cat,ag,aR.same]
 have b:jW k s t=ae:=by grind
 rw[b];have w:=cr.cm s.2.1 (ko (fD s) k t);have H:=cH.cm s.2.2 (by_,fD s);refine aE c [(53,ae),(57,ae),(61,ae),(67,ae)] 200 rfl ?_ ?_
 .simp only[ag,o,cF.list_fn,bG,bx,show i59.bytes=32 from rfl,show i86.bytes=16 from rfl,bd,bR,aG,aF]
  and_intros <;> first|exact g|exact cF.aH _|rfl|omega
 refine AK.freeze 8 1 rfl rfl rfl ?_;refine AK.mW tok [] rfl ?_ rfl rfl rfl iY;simp only[ag.cat,ag,cF.list_fn,mH,y,bG,eQ,gA,aG,aF]
 and_intros <;> first|rfl|exactλ_ _=>rfl|exact w|exact H|simp
end
def uf{t:List bE}(h:dj t=ab):wO t:=by
 obtain⟨j,_,_,n⟩:=ue.1 h;have e:∀ f∈t,b8 f.2=ab/\f.2.length<=40:=λf d=>by
  have:=(j f d).2;simp only[dN,bO,bd] at this;exact⟨this.2,this.1⟩
 refine⟨by omega,λf d=>⟨(e f d).1,by have:=(e f d).2;omega⟩,?_⟩
 have:∀ l:List bE,(∀ f∈l,f.2.length<=40)->(kq l).length<=40*l.length:=by
  intro l
  induction l with
  |nil=>intro _;simp[kq]
  |cons f r m =>
   intro i;have a:=m λg k=>i g (uN _ k)
   have b:=i f uR;have c:=od f.2;simp only[kq,List.flatMap_cons,bG,eQ] at a ⊢;omega
 grind
def LL(no k:Int)(ps:List Bs):(kQ no k ps).2.length=ps.length:=Gb k ps
def AQ{l:List cN}:∀ (a:Int),l.Pairwise (λa b=>a.1<b.1)->(∀ x∈l,a<=x.1/\x.1<=20)->(l.length:Int)<=max 0 (21-a):=by
 induction l with
 |nil=>intro a _ _;simp;omega
 |cons x r g =>
  intro a f c;obtain⟨h,e⟩:=List.pairwise_cons.1 f;have i:=c x uR;have:=g (x.1+1) e λy d=>⟨by have:=h y d;omega,(c y (uN _ d)).2⟩
  simp only[eQ];omega
def yW(k:Int):∀ (f:Nat) (no:Int)(ps:List Bs),(∀ q∈ps,bL q=ab)->∀ x∈gV k f no ps,∃ a c,no<=a/\a<no+(gV k f no ps).length/\0<c.length/\c.length<=4/\(∀ q∈c,bL q=ab)/\x=kQ a k c
 |0,_,_,_,x,b=>by simp[gV] at b
 |f+1,no,ps,e,x,b=>by
  simp only[gV] at b ⊢;split at b
  .rename_i h
   rw[bg h];rcases eY.1 b with rfl|b
   .grind
   .obtain⟨a,c,g,i,j⟩:=yW k f (no+1) (ps.drop 4) (λq d=>e q (zg d)) x b
    grind
  .simp at b
def Ic{α:Type}{l:List α}(h:l.length≠0)(d:α):l.getD (l.length-1) d∈l:=iD (by omega) d
def tu(k:Int):∀ (f:Nat) (no:Int)(ps:List Bs),∀ x∈gV k f no ps,no<=x.1
 |0,_,_,x,a=>by simp[gV] at a
 |f+1,no,ps,x,a=>by
  simp only[gV] at a;split at a
  .rcases eY.1 a with rfl|a
   .exact Int.le_refl _
   .have:=tu k f (no+1) (ps.drop 4) x a;omega
  .simp at a
def xc(k:Int):∀ (f:Nat) (no:Int)(ps:List Bs),(gV k f no ps).Pairwise λa b=>a.1<b.1
 |0,_,_=>by simp[gV]
 |f+1,no,ps=>by
  simp only[gV];split
  .refine List.pairwise_cons.2 ⟨λx c=>?_,xc k f (no+1) (ps.drop 4)⟩
   have:=tu k f (no+1) (ps.drop 4) x c;show no<x.1;omega
  .simp
section
open Go.Proofs
variable {X:Cx ah}
def wY{α:Type}{q:α->Bool}{l:List α}(h:l.any q=ab):0<=oJ q l:=by
 unfold oJ
 grind
def wZ{α:Type}{q:α->Bool}{l:List α}(h:l.any q=ae):oJ q l=-1:=by
 unfold oJ
 grind
def Lp(l:List (Int×Int))(b:Nat)(q:Int×Int->Bool)(k:∀ x,x∈l->Ev X b [.e (.agg [.c (.int .i64 x.1),.c (.int .i64 x.2)])] [] (dB (q x)) []) :
  Ev X 83 [cH.sl l,.e (.one (.c (.fn (.func b) [] [])))] [] (dI (oJ q l)) []:=by
 refine Ev.bQ Tryz.func83 rfl λm=>?_
 have d:=m.sl 0 rfl;refine bm rfl av ?_;refine AK.jV (λi=>i<=l.length/\∀ j,j<i->q (l.getD j (0,0))=ae) (λi:Nat=>[(0,cH.sl l),(1,.e (.one (.c (.fn (.func b) [] [])))),(7,dI l.length),(8,dI i)]) (λ_=>[]) (λi=>l.length-i) 0 rfl ?_ rfl av ⟨by omega,by omega⟩ ?_
 .simp[ag.cat,ag,aR.same]
 rintro i ⟨hi,a⟩
 by_cases h:i<l.length
 .have g:l.getD i (0,0)∈l:=by grind
  have n:l.getD (i:Int).toNat cH.bC=l.getD i (0,0):=by rw[bt];rfl
  refine aX [(9,ab)] 100 rfl ?_ ?_
  .simp only[ag]
   grind
  rw[n];refine AK.cQ (k _ g) [] rfl ?_;cases f:q (l.getD i (0,0)) with
  |true =>
   refine aX [(16,ab)] 100 rfl ?_ (AK.hY (bZ.zero rfl ?_))
   .simp[ag]
   .simp[ag,pX h f a]
  |false =>
   refine aX [(16,ae)] 100 rfl ?_ (AK.gm (i+1) rfl ?_ rfl av ?_ ?_)
   .simp[ag,bx];omega
   .simp[ag.cat,ag,aR.same]
   .grind
   .omega
 .refine aX [(9,ae)] 100 rfl (by simp[ag];omega) (AK.leave rfl rfl ?_)
  refine bm rfl av (AK.bo rfl ?_);simp[ag,lG (λj o=>a j (by omega))]
def Lq(l:List (Int×Int))(a:Nat)(q:Int×Int->Bool)(b:∀ x,x∈l->Ev X a [.e (.agg [.c (.int .i64 x.1),.c (.int .i64 x.2)])] [] (dB (q x)) []) :
  Ev X 52 [cH.sl l,.e (.one (.c (.fn (.func a) [] [])))] [] (dB (l.any q)) []:=by
 refine Ev.bQ Tryz.func52 rfl λd=>?_
 refine bm rfl av ?_;refine AK.cQ (Lp l a q b) [] rfl ?_;cases h:l.any q with
 |true =>
  refine aX [(8,ab)] 100 rfl (ck (wY h)) (AK.bo rfl ?_);simp[ag]
 |false =>
  refine aX [(8,ae)] 100 rfl (dY (by rw[wZ h];decide)) (AK.bo rfl ?_)
  simp[ag]
def Lr(l:List (bw))(b:Nat)(cs:List C)(q:bw->Bool)(k:∀ x,x∈l->Ev X b [vf x,.e (.one (.c (.rp cs)))] [] (dB (q x)) []) :
  Ev X 74 [cP.sl l,.e (.one (.c (.fn (.func b) [] [.rp cs])))] [] (dI (oJ q l)) []:=by
 refine Ev.bQ Tryz.func74 rfl λm=>?_
 have d:=m.sl 0 rfl;refine bm rfl av ?_;refine AK.jV (λi=>i<=l.length/\∀ j,j<i->q (l.getD j (0,[]))=ae) (λi:Nat=>[(0,cP.sl l),(1,.e (.one (.c (.fn (.func b) [] [.rp cs])))),(7,dI l.length),(8,dI i)]) (λ_=>[]) (λi=>l.length-i) 0 rfl ?_ rfl av ⟨by omega,by omega⟩ ?_
 .simp[ag.cat,ag,aR.same]
 rintro i ⟨hi,a⟩
 by_cases h:i<l.length
 .have g:l.getD i (0,[])∈l:=by grind
  have n:l.getD (i:Int).toNat cP.bC=l.getD i (0,[]):=by rw[bt];rfl
  refine aX [(9,ab)] 100 rfl ?_ ?_
  .simp only[ag]
   grind
  rw[n];refine AK.cQ (k _ g) [] rfl ?_;cases f:q (l.getD i (0,[])) with
  |true =>
   refine aX [(16,ab)] 100 rfl ?_ (AK.hY (bZ.zero rfl ?_))
   .simp[ag]
   .simp[ag,pX h f a]
  |false =>
   refine aX [(16,ae)] 100 rfl ?_ (AK.gm (i+1) rfl ?_ rfl av ?_ ?_)
   .simp[ag,bx];omega
   .simp[ag.cat,ag,aR.same]
   .grind
   .omega
 .refine aX [(9,ae)] 100 rfl (by simp[ag];omega) (AK.leave rfl rfl ?_)
  refine bm rfl av (AK.bo rfl ?_);simp[ag,lG (λj o=>a j (by omega))]
def Ls(l:List (bw))(a:Nat)(cs:List C)(q:bw->Bool)(b:∀ x,x∈l->Ev X a [vf x,.e (.one (.c (.rp cs)))] [] (dB (q x)) []) :
  Ev X 35 [cP.sl l,.e (.one (.c (.fn (.func a) [] [.rp cs])))] [] (dB (l.any q)) []:=by
 refine Ev.bQ Tryz.func35 rfl λd=>?_
 refine bm rfl av ?_;refine AK.cQ (Lr l a cs q b) [] rfl ?_;cases h:l.any q with
 |true =>
  refine aX [(8,ab)] 100 rfl (ck (wY h)) (AK.bo rfl ?_);simp[ag]
 |false =>
  refine aX [(8,ae)] 100 rfl (dY (by rw[wZ h];decide)) (AK.bo rfl ?_)
  simp[ag]
def Lt(l:List (Int))(b:Nat)(cs:List C)(H:ak->(Nat->Option Obj)->Prop)(q:Int->Bool)(k:∀ x,x∈l->Ev X b [dI x,.e (.one (.c (.rp cs)))] [.dz H] (dB (q x)) [.dz H]) :
  Ev X 72 [cI.sl l,.e (.one (.c (.fn (.func b) [] [.rp cs])))] [.dz H] (dI (oJ q l)) [.dz H]:=by
 refine Ev.bQ Tryz.func72 rfl λm=>?_
 have d:=m.sl 0 rfl;refine bm rfl av ?_;refine AK.bJ 1 (λi=>i<=l.length/\∀ j,j<i->q (l.getD j 0)=ae) (λi:Nat=>[(0,cI.sl l),(1,.e (.one (.c (.fn (.func b) [] [.rp cs])))),(7,dI l.length),(8,dI i)]) (λ_=>[.dz H]) (λi=>l.length-i) 0 rfl ?_ rfl ?_ rfl ⟨by omega,by omega⟩ ?_
 .simp[ag.cat,ag,aR.same]
 .simp[ag.cat,ag,aR.same]
 rintro i ⟨hi,a⟩
 by_cases h:i<l.length
 .have g:l.getD i 0∈l:=by grind
  have n:l.getD (i:Int).toNat cI.bC=l.getD i 0:=by rw[bt];rfl
  refine aX [(9,ab)] 100 rfl ?_ ?_
  .simp only[ag]
   grind
  rw[n];refine AK.cQ (k _ g) [0] rfl ?_;cases f:q (l.getD i 0) with
  |true =>
   refine aX [(16,ab)] 100 rfl ?_ (AK.ee (bZ.mk [0] rfl ?_ rfl rfl rfl lX))
   .simp[ag]
   .simp[ag,pX h f a]
  |false =>
   refine aX [(16,ae)] 100 rfl ?_ (AK.aQ (i+1) rfl ?_ ?_ ?_ ?_)
   .simp[ag,bx];omega
   .simp[ag.cat,ag,aR.same]
   .simp[ag.cat,ag,aR.same]
   .grind
   .omega
 .refine aX [(9,ae)] 100 rfl (by simp[ag];omega) (AK.leaveD rfl rfl ?_)
  refine bm rfl av (AK.dA [0] rfl ?_ rfl rfl rfl lX);simp[ag,lG (λj o=>a j (by omega))]
def Lu(l:List (Int))(a:Nat)(cs:List C)(H:ak->(Nat->Option Obj)->Prop)(q:Int->Bool)(b:∀ x,x∈l->Ev X a [dI x,.e (.one (.c (.rp cs)))] [.dz H] (dB (q x)) [.dz H]) :
  Ev X 32 [cI.sl l,.e (.one (.c (.fn (.func a) [] [.rp cs])))] [.dz H] (dB (l.any q)) [.dz H]:=by
 refine Ev.bQ Tryz.func32 rfl λd=>?_
 refine bm rfl av ?_;refine AK.cQ (Lt l a cs H q b) [0] rfl ?_;cases h:l.any q with
 |true =>
  refine aX [(8,ab)] 100 rfl (ck (wY h)) (AK.dA [0] rfl ?_ rfl rfl rfl lX);simp[ag]
 |false =>
  refine aX [(8,ae)] 100 rfl (dY (by rw[wZ h];decide)) (AK.dA [0] rfl ?_ rfl rfl rfl lX)
  simp[ag]
def wQ:∀ j,j<1->([0]:List Nat)[j]?=aa j:=λj a=>by
 have:j=0:=by omega
 subst this;rfl
set_option maxRecDepth 20000 in
def LV(m:Nat)(b:Nat->Int)(d:Bytes b)(k:Nat)(g:k<=4000000)(h:m<=1048576)(l:List Bs)(i:1<=l.length/\l.length<=1000) :
  cD (ι:={ p:Bs // p∈l }) X 93 [.e (.one (.ptr 0 0)),cS.sl l] [ny m b k] (λp=>dS p.1) (λ_=>[ny m b (k+1)]):=by
 refine cD.ox Tryz.func93 rfl rfl rfl λf=>?_
 refine bm rfl av ?_;refine AK.cP (et m b d k l.length g h (by omega)) [0] rfl (λ_=>rfl) ?_
 rintro⟨v,v0,v1⟩;refine bm rfl ?_ ?_
 .simp[ag];omega
 have c:l.getD v.toNat cS.bC∈l:=by
  have a:v.toNat<l.length:=by omega
  rw[ai,bl a];exact nH a
 refine AK.k6 ⟨l.getD v.toNat cS.bC,c⟩ (AK.dA [0] rfl ?_ rfl rfl rfl wQ);simp[ag]
def LW:List Bs:=[[],[102],[97,47],[97,98],[97,47,98,47,99],[47,97]]
def LX:List Bs:=[[97],[98],[99,47,97],[99,47,98],[100,47,97],[101],[97,47,98],[100]]
set_option maxRecDepth 20000 in
def Gm(m:Nat)(b:Nat->Int)(a:Bytes b)(k:Nat)(g:k<=100000)(d:m<=1048576) :
  cD (ι:={ p:Bs // p.length<=8 }) X 91 [.e (.one (.ptr 0 0))] [ny m b k] (λp=>dS p.1) (λ_=>[ny m b (k+1+1)]):=by
 refine cD.ox Tryz.func91 rfl rfl rfl λf=>?_
 refine bm rfl av ?_;refine AK.cP (et m b a k 40 (by omega) d (by omega)) [0] rfl (λ_=>rfl) ?_
 rintro⟨v,v0,v1⟩
 by_cases h:v=0
 .refine aX [(5,ab)] 100 rfl ?_ ?_
  .simp[ag,h]
  have:=LV (X:=X) m b a (k+1) (by omega) d LW (by decide)
  refine AK.mq this [0] rfl rfl rfl rfl ?_ rfl rfl rfl (λ_=>rfl) rfl (λ_=>rfl) rfl ?_
  .refine⟨rfl,λi hi=>?_⟩
   rcases i with _|_|_|_|_|_|i <;> first|rfl|omega
  rintro⟨p,c⟩;refine bm rfl av (AK.k6 ⟨p,(by decide:∀ p∈LW,p.length<=8) p c⟩ (AK.dA [0] rfl ?_ rfl rfl rfl wQ))
  simp[ag]
 .refine aX [(5,ae)] 100 rfl ?_ ?_
  .simp[ag,h]
  have:=LV (X:=X) m b a (k+1) (by omega) d LX (by decide)
  refine AK.mq this [0] rfl rfl rfl rfl ?_ rfl rfl rfl (λ_=>rfl) rfl (λ_=>rfl) rfl ?_
  .refine⟨rfl,λi hi=>?_⟩
   rcases i with _|_|_|_|_|_|_|_|i <;> first|rfl|omega
  rintro⟨p,c⟩;refine bm rfl av (AK.k6 ⟨p,(by decide:∀ p∈LX,p.length<=8) p c⟩ (AK.dA [0] rfl ?_ rfl rfl rfl wQ))
  simp[ag]
def words:List Bs:=[[97,98,99],[104,101,108,108,111],[119,111,114,108,100],[97,97,97,97],[107,101,101,112],[122,122],[98,97,99,107,117,112],[113]]
abbrev VC(k:Nat):={ q:Bs×Nat // q.1.length<=100000/\k<=q.2/\q.2<=k+60 }
def Gn(s:Bs) (n:Int)(d:s.length<=10)(j:0<=n/\n<=100):cD (ι:={ p:Bs // p.length<=100000 }) X 109 [dS s,dI n] [] (λp=>dS p.1) (λ_=>[]):=by
 refine cD.ox Tryz.func109 rfl rfl rfl λc=>?_
 refine bm rfl av ?_;refine AK.jV (λx:Nat×Bs×Bs=>x.1<=100/\x.2.2.length+x.2.1.length*x.1<=1010) (λx=>[(0,dS x.2.1),(1,dI x.1),(5,dS x.2.2)]) (λ_=>[]) (λx=>x.1) (n.toNat,s,[]) rfl ?_ rfl av ⟨by simp only;omega,?_⟩ ?_
 .simp[ag,ag.cat];omega
 .have:s.length*n.toNat<=10*100:=Nat.mul_le_mul d (by omega)
  simp only[gA];omega
 rintro⟨k,t,out⟩ ⟨b,f⟩;simp only at b f
 by_cases a:0<k
 .have i:t.length<=t.length*k:=qS _ a;have l:((k:Int) / 2)=((k / 2:Nat):Int):=by omega
  by_cases h:k % 2=1
  .have g:(t++t).length*(k / 2)+t.length=t.length*k:=by
    have e:k=2*(k / 2)+1:=by omega
    grind
   refine aX [(7,ab),(10,ab)] 100 rfl ?_ (AK.gm (k / 2,t++t,out++t) rfl ?_ rfl av ?_ ?_)
   .simp[ag,a];omega
   .simp[ag,ag.cat]
   .grind
   .simp only;omega
  .have g:(t++t).length*(k / 2)=t.length*k:=by
    have e:k=2*(k / 2):=by omega
    grind
   refine aX [(7,ab),(10,ae)] 100 rfl ?_ (AK.gm (k / 2,t++t,out) rfl ?_ rfl av ?_ ?_)
   .simp[ag,a];omega
   .simp[ag,ag.cat]
   .grind
   .simp only;omega
 .obtain rfl:k=0:=by omega
  refine aX [(7,ae)] 100 rfl (by simp[ag]) (AK.leave rfl rfl ?_)
  refine bm rfl av (AK.k6 ⟨out,by omega⟩ (AK.bo rfl ?_))
  simp[ag]
set_option maxRecDepth 20000 in
def OJ(m:Nat)(b:Nat->Int)(d:Bytes b)(k:Nat)(G:k<=100000)(c:m<=1048576) :
  cD (ι:=VC k) X 92 [.e (.one (.ptr 0 0))] [ny m b k] (λq=>dS q.1.1) (λq=>[ny m b q.1.2]):=by
 refine cD.ox Tryz.func92 rfl rfl rfl λz=>?_
 refine bm rfl av ?_;refine AK.cP (et m b d k 5 (by omega) c (by omega)) [0] rfl (λ_=>rfl) ?_
 rintro⟨v,v0,v1⟩;refine bm rfl av ?_;refine AK.bJ 1 (λs:Nat×Bs×Nat=>s.1<=4/\s.2.1.length+6*s.1<=24/\k<=s.2.2/\s.2.2+s.1<=k+5) (λs=>[(0,.e (.one (.ptr 0 0))),(4,dI s.1),(3,dS s.2.1)]) (λs=>[ny m b s.2.2]) (λs=>s.1) (v.toNat,[],k+1) rfl ?_ rfl ?_ rfl ⟨by omega,by simp;omega,by simp,by simp;omega⟩ ?_
 .simp[ag,ag.cat];omega
 .simp[ag,ag.cat,aR.same]
 rintro⟨n,s,k1⟩ ⟨A,B,D,E⟩;simp only at A B D E
 by_cases j:0<n
 .refine aX [(9,ab)] 100 rfl ?_ ?_
  .simp[ag,j]
  have:=LV (X:=X) m b d k1 (by omega) c words (by decide)
  refine AK.mq this [0] rfl rfl rfl rfl ?_ rfl rfl rfl (λ_=>rfl) rfl (λ_=>rfl) rfl ?_
  .refine⟨rfl,λi hi=>?_⟩
   rcases i with _|_|_|_|_|_|_|_|i <;> first|rfl|omega
  rintro⟨p,g⟩;have r:p.length<=6:=(by decide:∀ p∈words,p.length<=6) p g
  refine bm rfl ?_ (AK.aQ (n-1,s++p,k1+1) rfl ?_ ?_ ?_ ?_)
  .simp[ag,bx];omega
  .simp[ag,ag.cat];omega
  .simp[ag,ag.cat,aR.same]
  .simp;omega
  .simp;omega
 .obtain rfl:n=0:=by omega
  refine aX [(9,ae)] 100 rfl (by simp[ag]) (AK.leaveD rfl rfl ?_)
  refine bm rfl av ?_;refine AK.cP (et m b d k1 4 (by omega) c (by omega)) [0] rfl (λ_=>rfl) ?_
  rintro⟨u,H,J⟩
  by_cases l:u=0
  .refine aX [(19,ab)] 100 rfl (by simp[ag,l]) ?_
   refine AK.cP (et m b d (k1+1) 12 (by omega) c (by omega)) [0] rfl (λ_=>rfl) ?_
   rintro⟨w,I,w1⟩;refine bm rfl av ?_;refine AK.bJ 1 (λs:Nat×Bs×Nat=>s.1<=11/\s.2.1.length+s.1<=36/\k<=s.2.2/\s.2.2+s.1<=k+20) (λs=>[(0,.e (.one (.ptr 0 0))),(5,dI s.1),(3,dS s.2.1)]) (λs=>[ny m b s.2.2]) (λs=>s.1) (w.toNat,s,k1+2) rfl ?_ rfl ?_ rfl ⟨by omega,by simp only;omega,by simp only;omega,by simp only;omega⟩ ?_
   .simp[ag,ag.cat];omega
   .simp[ag,ag.cat,aR.same];omega
   rintro⟨n,s2,f⟩ ⟨C,g2,g3,g4⟩;simp only at C g2 g3 g4
   by_cases j:0<n
   .refine aX [(23,ab)] 100 rfl ?_ ?_
    .simp[ag,j]
    refine AK.cP (et m b d f 26 (by omega) c (by omega)) [0] rfl (λ_=>rfl) ?_
    rintro⟨x,F,K⟩;refine bm rfl ?_ (AK.aQ (n-1,s2++[UInt8.ofNat (97+x).toNat],f+1) rfl ?_ ?_ ?_ ?_)
    .simp[ag,bx];omega
    .simp[ag,ag.cat];omega
    .simp[ag,ag.cat,aR.same]
    .simp;omega
    .simp;omega
   .obtain rfl:n=0:=by omega
    refine aX [(23,ae)] 100 rfl (by simp[ag]) (AK.leaveD rfl rfl ?_)
    refine aX [(36,ae)] 100 rfl ?_ ?_
    .simp[ag];omega
    refine AK.cP (et m b d f 60 (by omega) c (by omega)) [0] rfl (λ_=>rfl) ?_
    rintro⟨y,o,t⟩
    by_cases h:y=0
    .refine aX [(41,ab)] 100 rfl ?_ (AK.k6 ⟨(s2++[65],f+1),by simp;omega,by simp only;omega,by simp only;omega⟩ (AK.dA [0] rfl ?_ rfl rfl rfl wQ))
     .simp[ag,h];omega
     .simp[ag]
    by_cases a:y=1
    .refine aX [(41,ae),(45,ab)] 100 rfl ?_ ?_
     .simp[ag,a]
     refine AK.cP (Gn [97,98,99,100,101] 9 (by decide) (by decide)) [] rfl (λ_=>rfl) ?_
     rintro⟨p,g⟩;refine bm rfl av (AK.k6 ⟨(p,f+1),g,by simp only;omega,by simp only;omega⟩ (AK.dA [0] rfl ?_ rfl rfl rfl wQ))
     simp[ag]
    .refine aX [(41,ae),(45,ae)] 100 rfl ?_ (AK.k6 ⟨(s2,f+1),by simp only;omega,by simp only;omega,by simp only;omega⟩ (AK.dA [0] rfl ?_ rfl rfl rfl wQ))
     .simp[ag,h,a]
     .simp[ag]
  .refine aX [(19,ae)] 2 rfl (by simp[ag,l]) ?_
   refine aX [(36,ae)] 100 rfl ?_ ?_
   .simp[ag];omega
   refine AK.cP (et m b d (k1+1) 60 (by omega) c (by omega)) [0] rfl (λ_=>rfl) ?_
   rintro⟨y,o,t⟩
   by_cases h:y=0
   .refine aX [(41,ab)] 100 rfl ?_ (AK.k6 ⟨(s++[65],(k1+1)+1),by simp;omega,by simp only;omega,by simp only;omega⟩ (AK.dA [0] rfl ?_ rfl rfl rfl wQ))
    .simp[ag,h];omega
    .simp[ag]
   by_cases a:y=1
   .refine aX [(41,ae),(45,ab)] 100 rfl ?_ ?_
    .simp[ag,a]
    refine AK.cP (Gn [97,98,99,100,101] 9 (by decide) (by decide)) [] rfl (λ_=>rfl) ?_
    rintro⟨p,g⟩;refine bm rfl av (AK.k6 ⟨(p,(k1+1)+1),g,by simp only;omega,by simp only;omega⟩ (AK.dA [0] rfl ?_ rfl rfl rfl wQ))
    simp[ag]
   .refine aX [(41,ae),(45,ae)] 100 rfl ?_ (AK.k6 ⟨(s,(k1+1)+1),by simp only;omega,by simp only;omega,by simp only;omega⟩ (AK.dA [0] rfl ?_ rfl rfl rfl wQ))
    .simp[ag,h,a]
    .simp[ag]
def OK(m:Nat)(b:Nat->Int)(d:m<=1048576):cD (ι:={ n:Nat // n<=1048576 }) X 13 [.e (.one (.c (.sl ae 1 m (RG b))))] [] (λ_=>.e (.one (.ptr 0 0))) (λn=>[ny n.1 b 0]):=by
 refine cD.ox Tryz.func13 rfl rfl rfl λf=>?_
 by_cases h:2000<m
 .refine aX [(5,ab)] 100 rfl ?_ (AK.norm [ny 2000 b 0] rfl ?_ (AK.k6 ⟨2000,by decide⟩ (AK.dA [0] rfl ?_ rfl rfl rfl (λj a=>by simp at a))))
  .simp[ag];omega
  .simp[ag,ag.cat,aR,jJ,cn]
  .simp[ag]
 .refine aX [(5,ae)] 100 rfl ?_ (AK.k6 ⟨m,d⟩ (AK.dA [0] rfl ?_ rfl rfl rfl (λj a=>by simp at a)))
  .simp[ag];omega
  .simp[ag]
end
end Go.AM.R1
namespace Go.AM
def IU(p:Bs):ak:=.string ⟨p.toArray⟩
def Sm{a:ByteArray}{p:Bs}(h:a.data.toList=p):Value.string a=IU p:=by
 subst h;simp[IU]
def str_val{M:Mem}{v:ak}{p:Bs}(h:Rd M v (.str p)):v=IU p/\cX v=ab:=by
 cases h with
 |str e _=>exact⟨Sm e,rfl⟩
end Go.AM
namespace Go.AM.R1
section
open Go.Proofs
variable {X:Cx ah} [X.jH]
def Sn(t:List bE):∀ i,i<t.length->(cF.fn t i).length=2/\∀ c∈cF.fn t i,vr c=ab:=by
 intro i _;refine⟨rfl,λc a=>?_⟩
 simp only[hZ.fn,sH,cF,eY,qY,or_false] at a;rcases a with rfl|rfl <;> rfl
abbrev LY(t:List bE)(xs:List ak):Prop:=dT 2 t.length (cF.fn t) xs
abbrev bK(bf:qQ)(n:Nat)(xs:List ak):aW:=.dz (ia 129 2 bf n xs)
abbrev tKB(bf:qQ)(n:Nat)(b:Bool):D:=.eN [.one (.v (lu bf n)),.one (.c (.bool b))]
def CW(t:List bE)(p x:Bs):cD (ι:={ q:qQ×List ak // LY (fz t p x).1 q.2 }) X 90 [cF.sl t,dS p,dS x] [] (λq=>tKB q.1.1 (fz t p x).1.length (fz t p x).2) (λq=>[bK q.1.1 (fz t p x).1.length q.1.2]) :=
 (uh t p x).thaw Tryz.func90 rfl (by simp[zZ,pe,r8,oa,vt,vr]) (Sn _)
def dT.nil{k:Nat}{es:Nat->List C}:dT k 0 es []:=⟨by simp,λi hi=>by omega,λi hi=>by omega⟩
def Ii{t:List bE}{p x:Bs}(h:(fz t p x).2=ab):(fz t p x).1.length<=6:=by
 unfold fz at h ⊢;split at h
 .rename_i b
  rw[bg b];split at h
  .rename_i a;rw[bg a];exact xg a
  .cases h
 .cases h
def VD{o:aw}{x y:an}(h:o.op=.call { callee:=.builtin .append,args:=#[x,y],argTypes:=#[69,69] }):mj ah o x y 129 i129 :=
 ⟨⟨69,69,i69,i69,h,YK,rfl,YK,rfl⟩,VB,by decide,by decide⟩
def LZ{M:Mem}{p:Bs}(h:p.length<=9223372036854775807):Rd M (IU p) (.str p):=Rd.str rfl h
def LY.snoc{t:List bE}{xs:List ak}(h:LY t xs)(p x:Bs)(b:p.length<=9223372036854775807)(d:x.length<=9223372036854775807):LY (t++[(p,x)]) (xs++[IU p,IU x]):=by
 unfold LY;rw[bG];refine dT.snoc h (λi hi=>?_) rfl rfl λq c a=>?_
 .simp[hZ.fn,sH,ai,jf hi]
 .have e:cF.fn (t++[(p,x)]) t.length=[.str p,.str x]:=by
   simp[hZ.fn,sH,cF]
  rw[e] at a;rcases q with _|_|q
  .simp at a;subst a;exact⟨IU p,rfl,λM=>LZ b⟩
  .simp at a;subst a;exact⟨IU x,rfl,λM=>LZ d⟩
  .simp at a
def LY.OL{t:List bE}{xs vs:List ak}(h:LY t xs)(i:Nat)(hi:i<t.length)(x:Bs)(f:mT vs [.c (.str x)]):LY (t.set i ((t.getD i cF.bC).1,x)) (xs.take (i*2+1)++vs++xs.drop (i*2+1+vs.length)):=by
 unfold LY;rw[pE];refine dT.eR h i 1 hi f (bc _) (λg d b=>?_) rfl λq c a=>?_
 .simp[hZ.fn,sH,ai,mi b]
 .have e:cF.fn (t.set i ((t.getD i cF.bC).1,x)) i=[.str (t.getD i cF.bC).1,.str x]:=by
   simp[hZ.fn,sH,cF,ai,hi]
  rw[e] at a;rcases q with _|_|q
  .right;simp at a;subst a;exact⟨by omega,rfl⟩
  .grind
  .simp at a
def OM:∀ j,j<1->([0,1]:List Nat)[j]?=aa j:=λj a=>by
 grind
structure CX (k c:Nat) where
 t:List bE
 bf:qQ
 xs:List ak
 k1:Nat
 fl:LY t xs
 hl:t.length<=7
 h1:k<=k1
 h2:k1<=k+c
set_option maxRecDepth 20000 in
def ON(m:Nat)(b:Nat->Int)(o:Bytes b)(k:Nat)(T:k<=50000)(i:m<=1048576) :
  cD (ι:=CX k 400) X 63 [.e (.one (.ptr 0 0))] [ny m b k] (λq=>.e (.one (.v (lu q.bf q.t.length)))) (λq=>[ny m b q.k1,bK q.bf q.t.length q.xs]):=by
 refine cD.ox Tryz.func63 rfl rfl rfl λL=>?_
 refine aX [] 9 rfl av ?_;refine AK.M6 3 129 2 rfl λz=>?_
 refine bm rfl av ?_;refine AK.cP (et m b o k 6 (by omega) i (by omega)) [0] rfl (λ_=>rfl) ?_
 rintro⟨v,v0,v1⟩;refine bm rfl av ?_;refine AK.bJ 2 (λs:Nat×List bE×qQ×List ak×Nat=>s.1<=5/\LY s.2.1 s.2.2.2.1/\s.2.1.length<=6/\k<=s.2.2.2.2/\s.2.2.2.2+70*s.1<=k+351) (λs=>[(0,.e (.one (.ptr 0 0))),(4,dI s.1),(3,.e (.one (.v (lu s.2.2.1 s.2.1.length))))]) (λs=>[ny m b s.2.2.2.2,bK s.2.2.1 s.2.1.length s.2.2.2.1]) (λs=>s.1) (v.toNat,[],z,[],k+1) rfl ?_ rfl ?_ rfl ⟨by omega,dT.nil,by simp,by simp,by simp;omega⟩ ?_
 .simp[ag,ag.cat];omega
 .simp[ag,ag.cat,aR.same]
 rintro⟨n,t,bf,xs,k1⟩ ⟨N,d,P,Q,S⟩;simp only at N d P Q S
 by_cases R:0<n
 .refine aX [(11,ab)] 100 rfl (by simp[ag,R]) ?_
  refine AK.cP (Gm m b o k1 (by omega) i) [0] rfl (λ_=>rfl) ?_
  rintro⟨p,J⟩;refine bm rfl av ?_;refine AK.cP (OJ m b o (k1+1+1) (by omega) i) [0] rfl (λ_=>rfl) ?_
  rintro⟨⟨x,F⟩,I,D,r⟩;simp only at I D r;refine bm rfl av ?_;refine AK.Ja (CW t p x) 1 0 rfl rfl rfl rfl (ia.Fq rfl (cF.fn t) d.rd) rfl ?_ rfl (λ_=>rfl) (λ_=>rfl) rfl ?_
  .simp[ag,ag.cat,aR.same]
  rintro⟨⟨a,xs'⟩,g⟩;simp only at g ⊢;cases E:(fz t p x).2 with
  |true =>
   have A:=Ii E;generalize (fz t p x).1=t' at g A ⊢;refine aX [] 6 rfl av ?_;refine AK.swap 1 2 (by decide) rfl rfl (λv K h=>h.1) (λv K h=>h.1) ?_
   refine aX [(23,ab)] 100 rfl ?_ (AK.aQ (n-1,t',a,xs',F) rfl ?_ ?_ ?_ ?_)
   .simp[ag,bx];omega
   .simp[ag,ag.cat];omega
   .simp[ag,ag.cat,aR.same]
   .grind
   .simp only;omega
  |false =>
   refine aX [(23,ae)] 100 rfl ?_ (AK.aQ (n-1,t,bf,xs,F) rfl ?_ ?_ ?_ ?_)
   .simp[ag,bx];omega
   .simp[ag,ag.cat];omega
   .simp[ag,ag.cat,aR.same]
   .grind
   .simp only;omega
 .obtain rfl:n=0:=by omega
  refine aX [(11,ae)] 100 rfl (by simp[ag]) (AK.leaveD rfl rfl ?_)
  refine bm rfl av ?_;refine AK.cP (et m b o k1 40 (by omega) i (by omega)) [0] rfl (λ_=>rfl) ?_
  rintro⟨u,U,V⟩
  by_cases G:u=0
  .refine aX [(27,ab)] 100 rfl (by simp[ag,G]) ?_
   refine AK.cP (Gm m b o (k1+1) (by omega) i) [0] rfl (λ_=>rfl) ?_
   rintro⟨p,J⟩;refine bm rfl av ?_;refine AK.Dx (l:=1) (bf:=bf) (xs:=xs) (n:=t.length) (xv:=[IU p,IU [97]]) (VD rfl) rfl rfl rfl rfl rfl rfl rfl rfl (λM v j c B H=>?_) (by show _*32<=_;omega) λa=>?_
   .rcases j with _|_|j
    .cases B;have:=str_val H;grind
    .cases B;have:=str_val H;grind
    .cases B
   refine bm rfl av (AK.k6 ⟨t++[(p,[97])],a,xs++[IU p,IU [97]],k1+1+1+1,d.snoc p [97] (by omega) (by decide),by simp;omega,by omega,by omega⟩ (AK.dA [0,1] rfl ?_ ?_ rfl rfl ?_))
   .simp[ag]
   .simp;rfl
   .exact OM
  by_cases f:u=1
  .by_cases y:0<t.length
   .refine AK.Jc (ia.len (l:=1) rfl) λC=>?_
    obtain⟨O,cap,rfl⟩:=C.2.2.1 y;refine aX [(27,ae),(35,ab),(39,ab)] 100 rfl ?_ ?_
    .simp[ag,y,f];omega
    refine AK.DC tok 1 rfl rfl rfl rfl rfl rfl rfl ?_ rfl rfl λvs I9=>?_
    .have:=d.len;simp;omega
    have w:=d.OL 0 y [65] I9;refine bm rfl av (AK.k6 ⟨t.set 0 ((t.getD 0 cF.bC).1,[65]),.row O cap,_,k1+1,w,by simp;omega,by omega,by omega⟩ (AK.dA [0,1] rfl ?_ ?_ rfl rfl ?_))
    .simp[ag]
    .simp;rfl
    .exact OM
   .cases bf
    all_goals
     refine aX [(27,ae),(35,ab),(39,ae)] 100 rfl ?_ (AK.k6 ⟨t,_,xs,k1+1,d,by omega,by omega,by omega⟩ (AK.dA [0,1] rfl ?_ rfl rfl rfl ?_))
     .simp[ag,y,f] <;> omega
     .simp[ag]
     .exact OM
  .refine aX [(27,ae),(35,ae)] 100 rfl (by simp[ag,G,f]) (AK.k6 ⟨t,bf,xs,k1+1,d,by omega,by omega,by omega⟩ (AK.dA [0,1] rfl ?_ rfl rfl rfl ?_))
   .simp[ag]
   .exact OM
end
end Go.AM.R1
namespace Go.AM
section
open Go.Conc (G)
section
variable {P:aq}{X:Cx P}{N:Nat}{ops:Array aw}{φ:Fr}{σ:List aW}{x:Nat->D}{S:(Nat->Bool)->List aW}
def o0:List aw->List (List Bool)->List (List Bool)
 |[],a=>a
 |o::r,a=>pT (Fx a (bP o.after.toList)) λc=>o0 r (a++[c])
 where pT:List Bool->(List Bool->List (List Bool))->List (List Bool)
 |[],q=>q []
 |true::r,q=>pT r λr=>q (ab::r)
 |false::r,q=>pT r λr=>q (ae::r)
def n5:∀ (l:List Bool)(q:List Bool->List (List Bool)),o0.pT l q=q l
 |[],q=>rfl
 |true::r,q=>by simp only[o0.pT];rw[n5 r]
 |false::r,q=>by simp only[o0.pT];rw[n5 r]
def Bz{all:List aw}{D:Nat->Bool}(f:∀ (j:Nat)(o:aw),all[j]?=aa o->D j=ab->∀ e∈bP o.after.toList,D e=ab) :
  ∀ (r:List aw) (a:List (List Bool)),(∀ k,r[k]?=all[a.length+k]?)->(∀ (j:Nat) (c:List Bool),a[j]?=aa c->∀ o,all[j]?=aa o->(∀ e∈bP o.after.toList,D e=ab)->∀ q,bit c q=ab->D q=ab) ->
   ∀ (j:Nat) (c:List Bool),(o0 r a)[j]?=aa c->∀ o,all[j]?=aa o->(∀ e∈bP o.after.toList,D e=ab)->∀ q,bit c q=ab->D q=ab
 |[],a,_,h=>h
 |o::r,a,l,h=>by
  simp only[o0];rw[n5];refine Bz f r _ (λk=>?_) ?_
  .have:=l (k+1)
   grind
  .intro j c d;have i:=l 0;simp only[kV,iM] at i;rcases Nat.lt_trichotomy j a.length with m|rfl|p
   .grind
   .rw[gg (bc _)] at d;simp at d;subst d;intro t b g q n;rw[<-i] at b;cases b;obtain⟨e,u,s⟩:=zC n
    grind
   grind
def ic(all:List aw)(i j:Nat):Bool:=match (o0 all [])[i]? with|some c=>bit c j|none=>ae
def vT{all:List aw}{D:Nat->Bool}(a:∀ (j:Nat)(o:aw),all[j]?=aa o->D j=ab->∀ e∈bP o.after.toList,D e=ab):∀ (i:Nat) o,all[i]?=aa o->(∀ e∈bP o.after.toList,D e=ab)->∀ j,ic all i j=ab->D j=ab:=by
 intro i o f d j b;unfold ic at b;split at b
 .rename_i c g
  exact Bz a all [] (by simp) (by simp) i c g o f d j b
 .cases b
def FD{all:List aw}{D:Nat->Bool}(c:∀ (j:Nat)(o:aw),all[j]?=aa o->D j=ab->∀ e∈bP o.after.toList,D e=ab){i:Nat}(f:D i=ae):∀ j,(j=i∨ic all j i=ab)->D j=ae:=by
 intro j g;rcases g with rfl|g
 .exact f
 .cases h:D j with
  |false=>rfl
  |true =>
   have a:∃ d,all[j]?=aa d:=by
    cases a:all[j]? with
    |some d=>exact⟨d,rfl⟩
    |none =>
     exfalso;have k:(o0 all []).length=all.length:=by
      have:∀ (r:List aw) (b:List (List Bool)),(o0 r b).length=b.length+r.length:=by
       intro r
       induction r with
       |nil=>intro b;simp[o0]
       |cons o r l=>intro b;simp only[o0];rw[n5,l];simp;omega
      simpa using this all []
     unfold ic at g
     grind
   obtain⟨d,a⟩:=a;have:=vT c j d a (c j d a h) i g;rw[f] at this;cases this
def er{P:aq}(X:Cx P)(N:Nat)(all:List aw)(φ:Fr)(x:Nat->D)(S:(Nat->Bool)->List aW)(i:Nat)(o:aw):Prop :=
 ∀ D:Nat->Bool,(∀ j,ic all i j=ab->D j=ab)->(∀ j,(j=i∨ic all j i=ab)->D j=ae)->OA X N all o (m6 all φ x i) (S D) (x i) (S (cM i D))
def JE{P:aq}(X:Cx P)(N:Nat)(all:List aw)(φ:Fr)(x:Nat->D)(S:(Nat->Bool)->List aW):List aw->Nat->Prop
 |[],_=>True
 |o::r,i=>er X N all φ x S i o/\JE X N all φ x S r (i+1)
def JE.get{all:List aw}:∀ {l:List aw}{k:Nat},JE X N all φ x S l k->∀ i o,l[i]?=aa o->er X N all φ x S (k+i) o
 |[],_,_,i,o,h=>by simp at h
 |p::r,k,h,0,o,a=>by simp at a;subst a;exact h.1
 |p::r,k,h,i+1,o,a=>by
  have:=JE.get h.2 i o (by simpa using a)
  grind
def AK.flags{ops:Array aw}{id:Nat}{K:List It}{Qf:Post}(l:P.follows Departure.mixedOrders=ab)(x:Nat->D)(S:(Nat->Bool)->List aW)(m:S (λ_=>ae)=σ)
  (a:mv ops.toList=ab) (b:rV ops.toList 0=ab) (e:n3 N ops.toList=ab) (one:JE X N ops.toList φ x S ops.toList 0)
  (k:∀ D,(∀ i,i<ops.toList.length->D i=ab)->AK X N Qf K .normal (MK ops.toList φ x) (S D)):AK X N Qf (.code (.region id ops ab)::K) .normal φ σ:=by
 have:=AW.reg (X:=X) (N:=N) (φ:=φ) (σ:=σ) l (all:=ops.toList) ops.toList.length (λ_:Unit=>x) (λ_=>S) (λ_ _=>True) () av m a b e (bc _)
  (λi h1 h2=>absurd h2 (ky.2 h1)) (λh D _ _ i h1 h2=>absurd h2 (ky.2 h1))
  (λh D i o _ g _ f c d=>by
   have h1:=one.get i o g;rw[br] at h1;exact(h1 D (vT d i o g c) (FD d f)).A9 ⟨(),λ_ _=>rfl,av⟩ rfl rfl)
  (Q:=AK X N Qf K) (λh D _ j=>by
   rw[q8];exact .nil (k D j)) id
 rw[oM] at this;exact this
end
end
end Go.AM
namespace Go.AM.R1
section
open Go.Proofs
def mb(a:List D)(res:D):dg:=λargs σ=>match σ with|[]=>aa (res,[],[args=a])|_=>af
def nw{X:Cx ah}{f:aV}{a:List D}{res:D}(h:Ev X f a [] res []):dD X f (mb a res):=by
 intro args σ r σ' obs he ho;unfold mb at he;split at he
 .cases he;have:args=a:=ho;subst this;exact h
 .cases he
variable {X:Cx ah} [X.jH]
end
end Go.AM.R1
namespace Go.AM
def cD.die{P:aq}{ι:Type}{X:Cx P}{f:aV}{args:List D}{E k n:Nat}{b:Nat->List C}{w:BP}{es:ι->Nat->List C}{m:ι->Nat}(h:cD X f args [.buf E k n b] (λ_=>.e (.one (.bp 0 w))) (λi=>[.buf E k (m i) (es i)])):Ev X f args [.buf E k n b] (.e (.one (.bp 0 w))) [.dead] :=
 ⟨h.1,λs vs hr hh S cs hS=>h.2 s vs hr hh S cs λi fr v s' hl mR ld st=>hS fr v s' hl (by
  obtain⟨lv,h1,_,_⟩:gu _ _ _ (.bp 0 w):=mR;exact(⟨lv,h1,by simp,λ_ _ _ _ hb=>by simp at hb⟩:gu [.dead] s' v (.bp 0 w))) ld.kz
  ⟨st.size,st.eB,st.mem,st.jk,st.uo,λl B L a c=>by
   obtain⟨B',L',h1,h2,d⟩:=st.box l B L a c;cases l with
   |zero=>simp at a;subst a;exact⟨.dead,L',rfl,h2,av⟩
   |succ l=>simp at a,st.os,st.tape,st.output,st.own⟩⟩
namespace R1
open Go.Proofs
variable {X:Cx ah}
def ER(h:sr):Ev X 100 [YG h] [] (dB (gq h)) []:=by
 refine Ev.bQ Tryz.func100 rfl λc=>?_
 have a:bD X []:=.nil;unfold gq
 by_cases b:h.1=1
 .by_cases c3:1<=h.2
  .exact aE a [(6,ab),(11,ab),(16,ab)] 100 rfl (by simp[ag,b,c3]) (AK.bo rfl (by simp[ag,b,c3]))
  .exact aE a [(6,ab),(11,ab),(16,ae)] 100 rfl (by simp[ag,b];omega) (AK.bo rfl (by simp[ag,c3]))
 .by_cases c2:h.1=2
  .by_cases c3:1<=h.2
   .exact aE a [(6,ae),(11,ab),(16,ab)] 100 rfl (by simp[ag,c2,c3]) (AK.bo rfl (by simp[ag,c2,c3]))
   .exact aE a [(6,ae),(11,ab),(16,ae)] 100 rfl (by simp[ag,c2];omega) (AK.bo rfl (by simp[ag,c3]))
  .exact aE a [(6,ae),(11,ae),(16,ae)] 100 rfl (by simp[ag,b,c2]) (AK.bo rfl (by
    have:¬(1<=h.1/\h.1<=2):=by omega
    simp only[ag,dY this];simp))
def HZ(h:sr):Ev X 99 [YG h] [] (dB (!gq h)) []:=by
 refine Ev.bQ Tryz.func99 rfl λb=>?_
 have a:bD X [(100,kN Ta (λh=>dB (gq h)) λ_=>[])]:=.cons (.oH λh _=>ER h) .nil
 exact aE a [] 100 rfl av (AK.bo rfl (by simp[ag]))
def H0(l:List sr):kR l=(decide (l.length<=9)&&!l.any λh=>!gq h):=by
 have:(bh l.length).all (λi=>gq (l.getD i (0,0)))=!l.any λh=>!gq h:=by
  rw[nL,b6,jg,List.any_eq_false]
  constructor
  .intro h x a;obtain⟨i,hi,rfl⟩:=lH.1 a
   grind
  grind
 rw[kR,this,Bool.and_comm]
def H3(l:List sr):Ev X 71 [cH.sl l] [] (dB (kR l)) []:=by
 refine Ev.bQ Tryz.func71 rfl λd=>?_
 have a:=Lq (X:=X) l 99 (λh=>!gq h) λx _=>HZ x
 have b:bD X [(52,mb [cH.sl l,.e (.one (.c (.fn (.func 99) [] [])))] (dB (l.any λh=>!gq h)))]:=.cons (nw a) .nil
 rw[H0]
 by_cases h:l.length<=9
 .exact aE b [(6,ab)] 100 rfl ⟨rfl,ck (by omega)⟩ (AK.bo rfl (by simp[ag,h]))
 .exact aE b [(6,ae)] 100 rfl (by simp[ag];omega) (AK.bo rfl (by simp[ag,dY h]))
def OF:dD X 71 ss:=.oH λl _=>H3 l
def AJ(p:bw)(f:p.2.length<=4000000):Ev X 111 [vf p] [] (cI.sl (p.2.map (·.1))) []:=by
 refine Ev.bQ Tryz.func111 rfl λd=>?_
 refine aX [(1000002,ab)] 100 rfl av ?_;refine AK.ix 3 3 1 rfl rfl ?_;refine bm rfl av ?_;refine AK.bJ 2 (λi=>i<=p.2.length) (λi:Nat=>[(1,.e (.one (.ptr 0 0))),(3,.e (.one (.vec 1 1 i (cI.fn ((p.2.take i).map (·.1)))))),(7,dx.sl p.2),(8,dI p.2.length),(9,dI i)]) (λi=>[Oy p,.vec 3 1 i (cI.fn ((p.2.take i).map (·.1)))]) (λi=>p.2.length-i) 0 rfl (by simp[ag.cat,ag,aR.same,aR.nil]) rfl (by simp[ag.cat,ag,aR.same,aR.nil]) rfl (by omega) ?_
 intro i hi
 by_cases h:i<p.2.length
 .have b:p.2.getD (i:Int).toNat dx.bC=fN p i:=by rw[bt];rfl
  have a:(p.2.take (i+1)).map (·.1)=(p.2.take i).map (·.1)++[(fN p i).1]:=by rw[bu h (0,[])];simp
  have c:((p.2.take i).map (·.1)).length=i:=by simp;omega
  have e:=cI.cm ((p.2.take i).map (·.1)) (fN p i).1;rw[c] at e;refine aX [(10,ab)] 100 rfl ?_ (AK.aQ (i+1) rfl ?_ ?_ h (by omega))
  .simp only[ag,bx,show i3.bytes=8 from rfl];simp;omega
  .rw[a];simp only[ag.cat,ag,b,aG,aF];and_intros <;> first|exact aR.same|exact e|rfl|omega
  .rw[a];simp only[ag.cat,ag,b,aG,aF];and_intros <;> first|exact aR.same|exact e|rfl|omega
 obtain rfl:i=p.2.length:=by omega
 rw[bY];refine aX [(10,ae)] 100 rfl (by simp[ag]) (AK.leaveD rfl rfl ?_)
 exact bm rfl av (AK.bo rfl (by simp[ag,ag.cat,aR.same]))
abbrev CK:dg:=kN (B7 dx) (λp=>cI.sl (p.2.map (·.1))) λp=>[p.2.length<=4000000]
def LI:dD X 111 CK:=.oH λp h=>AJ p h
def H4(ps:List bw)(i:Nat):(bU (ps.take i)).length<=(bU ps).length:=by
 have:bU ps=bU (ps.take i)++bU (ps.drop i):=by unfold bU;rw[<-nI,j0]
 rw[this,bG];omega
abbrev YI(l:List Int):D:=.e (.one (.bp 0 (.sl l.length 1 0 l.length)))
def CL(ps:List bw)(n:∀ p∈ps,p.2.length<=4000000)(q:(bU ps).length<=4000000):Ev X 95 [cP.sl ps] [] (YI (bU ps)) [H5 (bU ps).length (bU ps)]:=by
 refine Ev.bQ Tryz.func95 rfl λm=>?_
 have k:=m.sl 0 rfl;have c:bD X [(111,CK)]:=.cons LI .nil;refine aE c [(1000002,ab)] 100 rfl av ?_;refine AK.Re 3 3 1 (cI.fn []) rfl ?_;refine aE c [] 100 rfl av ?_;refine AK.bJ 1 (λi=>i<=ps.length) (λi:Nat=>[(3,.e (.one (.bp 0 (.sl (bU (ps.take i)).length 1 0 (bU (ps.take i)).length)))),(6,cP.sl ps),(7,dI ps.length),(8,dI i)]) (λi=>[H5 (bU (ps.take i)).length (bU (ps.take i))]) (λi=>ps.length-i) 0 rfl (by simp[ag.cat,ag,aR.same,bU]) rfl (by simp[ag.cat,ag,aR,bU]) rfl (by omega) ?_
 intro i hi
 by_cases h:i<ps.length
 .have g:ps.getD (i:Int).toNat cP.bC=ps.getD i (0,[]):=by rw[bt];rfl
  have b:=w6 h;have f:=H4 ps (i+1);have o:=n _ (gO (d:=(0,[])) h);generalize ps.getD i (0,[])=p at *;rw[b] at f;generalize bU (ps.take i)=a at *;have e:=cI.LJ a (p.2.map (·.1)) _ rfl;simp only[bG,kY] at f e;refine aE c [(9,ab)] 100 rfl ?_ (AK.aQ (i+1) rfl ?_ ?_ h (by omega))
  .simp only[ag,g,bx,dx.list_fn,dx.aH,kY,show i3.bytes=8 from rfl];simp;omega
  .rw[b];simp only[ag.cat,ag,g,dx.list_fn,bG,kY,aG,aF];and_intros <;> first|exact aR.same|rfl|omega
  .rw[b];simp only[ag.cat,ag,g,dx.list_fn,bG,kY,aG,aF];grind
 obtain rfl:i=ps.length:=by omega
 rw[bY];refine aE c [(9,ae)] 100 rfl (by simp[ag]) (AK.leaveD rfl rfl ?_)
 refine aE c [] 100 rfl av (AK.dA [0] rfl ?_ rfl rfl rfl (λj l=>absurd l (by simp)))
 simp[ag]
def H6(ps:List bw)(a:∀ p∈ps,p.2.length<=4000000)(b:(bU ps).length<=4000000):Ev X 95 [cP.sl ps] [] (cI.sl (bU ps)) [] :=
 Ev.iW (σ1:=[]) (E:=3) (k:=1) (n:=(bU ps).length) (es:=cI.fn (bU ps)) (CL ps a b) rfl (by simp[ag]) rfl (bc _)
end R1
section
variable {P:aq}{X:Cx P}{N:Nat}{all:List aw}{φ:Fr}{x:Nat->D}{k:Bool->Bool->Bool->List aW}{i g f b:Nat}{o:aw}
abbrev Ck(k:Bool->Bool->Bool->List aW)(g f b:Nat):(Nat->Bool)->List aW:=λD=>k (D g) (D f) (D b)
def lA{i j:Nat}{D:Nat->Bool}(h:aA j i=ae):cM i D j=D j:=by simp only[cM,h]
def Ax{i:Nat}{D:Nat->Bool}:cM i D i=ab:=by simp only[cM,iL]
def er.q3(h1:aA g i=ae)(h2:aA f i=ae)(e:aA b i=ae)(h:∀ a c d,OA X N all o (m6 all φ x i) (k a c d) (x i) (k a c d)):er X N all φ x (Ck k g f b) i o:=by
 intro D _ _;show OA X N all o _ (k (D g) (D f) (D b)) _ (k (cM i D g) (cM i D f) (cM i D b));rw[lA h1,lA h2,lA e];exact h _ _ _
def er.e1(hi:aA g i=ab)(h1:aA g i=ab)(h2:aA f i=ae)(a:aA b i=ae)(h:∀ c d,OA X N all o (m6 all φ x i) (k ae c d) (x i) (k ab c d)):er X N all φ x (Ck k g f b) i o:=by
 intro D _ j;have e:=bT hi;subst e;show OA X N all o _ (k (D g) (D f) (D b)) _ (k (cM g D g) (cM g D f) (cM g D b));rw[Ax,lA h2,lA a,j g (.inl rfl)];exact h _ _
def er.e2(hi:aA f i=ab)(h1:aA g i=ae)(j:aA b i=ae)(hb:ic all b i=ab)(d:aA f i=ab)(h:∀ a,OA X N all o (m6 all φ x i) (k a ae ae) (x i) (k a ab ae)):er X N all φ x (Ck k g f b) i o:=by
 intro D _ c;have e:=bT hi;subst e;show OA X N all o _ (k (D g) (D f) (D b)) _ (k (cM f D g) (cM f D f) (cM f D b));rw[Ax,lA h1,lA j,c f (.inl rfl),c b (.inr hb)];exact h _
def er.e3(hi:aA b i=ab)(h1:aA g i=ae)(h2:aA f i=ae)(hb:ic all i f=ab)(d:aA b i=ab)(h:∀ a,OA X N all o (m6 all φ x i) (k a ab ae) (x i) (k a ab ab)):er X N all φ x (Ck k g f b) i o:=by
 intro D c j;have e:=bT hi;subst e;show OA X N all o _ (k (D g) (D f) (D b)) _ (k (cM b D g) (cM b D f) (cM b D b));rw[Ax,lA h1,lA h2,j b (.inl rfl),c f hb];exact h _
end
namespace R1
open Go.Proofs
variable {X:Cx ah} [X.jH]
end R1
end Go.AM
namespace Go.AM.R1
section
open Go.Proofs
section
variable {X:Cx ah}
set_option maxRecDepth 20000 in
def R3(m:Nat)(b:Nat->Int)(a:Bytes b)(k:Nat)(d:k<=4000000)(f:m<=1048576)(l:List Bs)(h:1<=l.length/\l.length<=1000) :
  Ev X 93 [.e (.one (.ptr 0 0)),cS.sl l] [ny m b k] (dS (l.getD (se m b k l.length).toNat [])) [ny m b (k+1)]:=by
 refine Ev.bQ Tryz.func93 rfl λc=>?_
 refine bm rfl av ?_;refine AK.cQ (Cl m b a k l.length d f (by omega)) [0] rfl ?_
 have g:=tT m b k l.length (by omega)
 refine bm rfl ?_ (AK.dA [0] rfl ?_ rfl rfl rfl wQ)
 .simp[ag];omega
 .rfl
end
end
section
open Go.Proofs
def Ga(a:List D)(σ0:List aW)(res:D)(σ1:List aW):dg:=λargs σ=>aa (res,σ1,[args=a,σ=σ0])
def Lc{X:Cx ah}{f:aV}{a:List D}{σ0 σ1:List aW}{res:D}(h:Ev X f a σ0 res σ1):dD X f (Ga a σ0 res σ1):=by
 intro args σ r σ' obs he ho;cases he;obtain⟨c,b⟩:args=a/\σ=σ0:=ho;subst c b;exact h
variable {X:Cx ah} [X.jH]
end
section
open Go.Proofs
variable {X:Cx ah}
def ES(s:a9):Ev X 67 [ey s] [] (ey s) []:=by
 refine Ev.gy Tryz.func67 rfl rfl rfl λb=>?_
 refine bm rfl (by simp[ag]) ?_
 refine AK.freeze 2 1 rfl rfl rfl ?_;exact AK.mW tok [] rfl (by simp[ag,ag.cat,aR.same]) rfl rfl rfl (λj a=>absurd a (by simp))
abbrev LK:dg:=kN N0 (λs=>ey s) λ_=>[]
def Sf:dD X 67 LK:=.oH λs _=>ES s
abbrev IK(s:a9):aW:=.cells 114 [.c (.sl ae 2 s.1.length (cP.fn s.1)),.c (.sl ae 2 s.2.1.length (cr.fn s.2.1)),.c (.sl ae 2 s.2.2.length (cH.fn s.2.2))]
structure PV (s:a9):Prop extends OE s where
 pk:∀ p∈s.1,p.2.length<=4000000
 nm:(bU s.1).length<=4000000
def yT(k:Int)(s:a9):Bool:=(bh s.1.length).all (l4 k s.1)&&decide (s.1.length<=20)&&decide (bU s.1).Nodup
def ET(k:Int)(s:a9)(v:cA k=ab)(m:PV s):Ev X 69 [ey s,dI k] [] (dB (yT k s)) []:=by
 refine Ev.bQ Tryz.func69 rfl λF=>?_
 have E:=m.pN;have y:=m.pk;have z:=H6 (X:=X) s.1 m.pk m.nm;have n:bD X [(94,F0)]:=.cons N1 .nil;refine aE n [] 100 rfl av ?_;unfold yT;refine AK.bJ 1 (λi=>i<=s.1.length/\∀ j,j<i->l4 k s.1 j=ab) (λi:Nat=>[(1,dI k),(2,.e (.one (.ptr 0 0))),(9,cP.sl s.1),(10,dI s.1.length),(11,dI i)]) (λ_=>[IK s]) (λi=>s.1.length-i) 0 rfl (by simp[ag.cat,ag,aR.same]) rfl (by simp[ag.cat,ag,aR.same]) rfl ⟨by omega,by omega⟩ ?_
 rintro i ⟨hi,b⟩
 by_cases h:i<s.1.length
 .have w:s.1.getD i cP.bC=s.1.getD i (0,[]):=rfl;have r:s.1.getD (i-1) cP.bC=s.1.getD (i-1) (0,[]):=rfl;have a:l4 k s.1 i=(jq k (s.1.getD i (0,[]))&&CE (·.1) (0,[]) s.1 i):=rfl;have c:=mJ (f:=λp:bw=>p.1) (d:=(0,[])) (l:=s.1) (i:=i)
  have g:=y _ (gO (d:=(0,[])) h);generalize s.1.getD i (0,[])=p at *;generalize s.1.getD (i-1) (0,[])=p' at *;cases q:jq k p with
  |false =>
   rw[q,pF] at a;refine aE n [(12,ab),(20,ab),(35,ab)] 100 rfl ?_ (AK.ee (bZ.zero rfl ?_))
   .simp[-ai,ag,w,v,g,q,dx.list_fn,dx.aH];omega
   .rw[dO h a];simp[ag]
  |true =>
   rw[q,dF] at a
   by_cases A:i=0
   .subst A;refine aE n [(12,ab),(20,ae),(23,ae),(35,ae)] 100 rfl ?_ (AK.aQ 1 rfl (by simp[ag.cat,ag,aR.same]) (by simp[ag.cat,ag,aR.same]) ⟨h,fe b (by rw[a];rfl)⟩ (by omega))
    simp[-ai,ag,w,v,g,q,dx.list_fn,dx.aH,bx];omega
   have c:=c A
   by_cases B:p'.1<p.1
   .refine aE n [(12,ab),(20,ae),(23,ab),(33,ae),(35,ae)] 100 rfl ?_ (AK.aQ (i+1) rfl (by simp[ag.cat,ag,aR.same]) (by simp[ag.cat,ag,aR.same]) ⟨h,fe b (by rw[a,c];exact ck B)⟩ (by omega))
    simp[-ai,ag,w,r,v,g,q,dx.list_fn,dx.aH,bx];omega
   .refine aE n [(12,ab),(20,ae),(23,ab),(33,ab),(35,ab)] 100 rfl ?_ (AK.ee (bZ.zero rfl ?_))
    .simp[-ai,ag,w,r,v,g,q,dx.list_fn,dx.aH,bx];omega
    .rw[dO h (by rw[a,c];exact dY B)];simp[ag]
 obtain rfl:i=s.1.length:=by omega
 rw[b6.2 b,dF];refine aE n [(12,ae)] 100 rfl (by simp[ag]) (AK.leaveD rfl rfl ?_)
 refine aE n [] 100 rfl av ?_;refine AK.cQ (CL s.1 m.pk m.nm) [] rfl ?_;refine aE n [] 100 rfl av ?_;refine AK.cQ (CM (bU s.1) m.nm) [1] rfl ?_;have C:=AL (bU s.1);have t:=(xa (X:=X) (mK (bU s.1)) (by rw[gK];exact m.nm)).die
 rw[gK] at t;have x:=sv (mK (bU s.1));rw[gK] at x;have D:=m.nm;generalize dJ (mK (bU s.1))=cs at *;generalize mK (bU s.1)=so at *;have ov:bD X [(97,Ga [kD (bU s.1).length] [H5 (bU s.1).length so] (.e (.one (.bp 0 (.sl (bU s.1).length 1 0 cs.length)))) [.dead]),(95,mb [cP.sl s.1] (cI.sl (bU s.1)))]:=.cons (Lc t) (.cons (nw z) .nil);refine aE ov [(1000009,ab)] 100 rfl av ?_
 by_cases u:s.1.length<=20
 rotate_left
 .refine aE ov [(46,ae)] 100 rfl ?_ (AK.bo rfl ?_)
  .simp[ag];omega
  .simp[ag,u]
 have o:(s.1.length:Int)<=20:=by omega
 generalize G:bU s.1=N at *;refine AK.G1 (ι:=Unit) en 6 (λi=>match bq i 5 with|true=>ab|false=>match aA i 8 with|true=>ab|false=>aA i 9) (λi=>[.e (.one (.ptr 0 0)),cP.sl s.1,dI s.1.length,dB (decide ((s.1.length:Int)<=20)),dB ab,.e (.one (.bp 1 (.sl N.length 1 0 N.length))),.any,.any,.e (.one (.ptr 0 0)),cP.sl s.1].getD i .any)
  (λ_ i=>[.any,.any,.any,.any,.any,.any,.e (.one (.bp 1 (.sl N.length 1 0 cs.length))),dI cs.length,.any,.any,cI.sl N,dI N.length,dB ((cs.length:Int)==N.length),dB ((cs.length:Int)==N.length),dB ((cs.length:Int)==N.length)].getD i .any) (λ_=>[IK s,.dead]) rfl rfl rfl rfl rfl rfl ?_ ?_ ?_ ?_
 .exact⟨.cd tok ov rfl,.cd tok ov rfl,.cd tok ov rfl,.cd tok ov rfl,.eval tok ov (ds:=[(46,ab)]) rfl (ck o),.cd tok ov rfl,av,av,.cd tok ov rfl,.cd tok ov rfl,av,av,av,av,av,av⟩
 .intro _;exact⟨.cd tok ov rfl,.cd tok ov rfl,.cd tok ov rfl,.cd tok ov rfl,.eval tok ov (ds:=[(46,ab)]) rfl (ck o),.cd tok ov rfl,av,.cd tok ov rfl,.cd tok ov rfl,.cd tok ov rfl,.eval tok ov (ds:=[]) rfl rfl,.cd tok ov rfl,.cd tok ov rfl,.cd tok ov rfl,.cd tok ov rfl,av⟩
 .exact .sY (fW tok ov (ds:=[]) (σ':=aa [IK s,.dead]) rfl ⟨rfl,rfl⟩)
 .intro _;refine aE ov [] 100 rfl av (AK.bo rfl ?_);have:((cs.length:Int)==N.length)=decide N.Nodup:=by
   grind
  simp[ag,this,u]
end
structure lj (s:a9):Prop where
 a1:s.1.length<=20
 a2:∀ p∈s.1,(1<=p.1/\p.1<=99)/\p.2.length<=4
 a3:s.2.1.length<=21
 a4:∀ x∈s.2.1,(1<=x.1/\x.1<=20)/\x.2.length<=6/\∀ y∈x.2,y.2.length<=40
 a5:s.2.2.length<=9
 a6:∀ h∈s.2.2,1<=h.2/\h.2<=20
def kr{α b:Type}{f:α->List b}{n:Nat}:∀ {l:List α},(∀ x∈l,(f x).length<=n)->(l.flatMap f).length<=n*l.length
 |[],_=>by simp
 |x::l,h=>by
  have d:=h x uR;have c:=kr (l:=l) λy a=>h y (uN _ a)
  rw[List.flatMap_cons,bG,eQ,Nat.mul_succ];omega
def og{x:cN}(h:x.2.length<=6/\∀ y∈x.2,y.2.length<=40):(cf x.2).length<=240:=by
 have:=kr (f:=λy:gG=>y.2) (n:=40) h.2
 unfold cf;omega
def lj.YJ{s:a9}(h:lj s):PV s:=by
 have h1:=h.a1;have d:=h.a3;have c:(bU s.1).length<=4*s.1.length:=kr λp b=>by rw[kY];exact(h.a2 p b).2
 have e:(jz s.2.1).length<=240*s.2.1.length:=kr λx a=>og (h.a4 x a).2
 refine⟨⟨by omega,λx a=>?_,by omega,by omega⟩,λp b=>?_,by omega⟩
 .have:=(h.a4 x a).2
  grind
 .have:=(h.a2 p b).2;omega
def lj.LO{s:a9}(h:lj s):dL s:=by
 have h1:=h.YJ;have a:=h.a5;exact⟨h1.pN,h1.pk,h1.sN,h1.sm,by omega⟩
def lj.OG{s:a9}(h:lj s):R0 s :=
 ⟨λx a=>by have:=(h.a2 x a).1;omega,λx a=>by have:=(h.a4 x a).1;omega,λx a=>by have:=h.a6 x a;omega⟩
def lj.fj{s:a9}(h:lj s):(fj s.1).length<=100000:=by
 have h1:=h.a1;have:(R1.fj s.1).length<=4*s.1.length:=kr λp a=>by rw[kY];exact(h.a2 p a).2
 omega
def AT{k:Int}{x:cN}{ps:List bw}(h:(cG k x ps).isSome=ab):x.2.length<=6/\∀ y∈x.2,y.2.length<=40:=by
 unfold cG at h;split at h
 .rename_i a
  simp only[bO] at a;obtain⟨⟨_,f⟩,e⟩:=a;refine⟨?_,λy g=>?_⟩
  .simp only[dj,bO,bd,cV,kY] at e;exact e.2
  .have b:=List.all_eq_true.1 f y g;unfold fileOf at b;split at b
   .cases b
   .rename_i l d
    split at b
    .cases b
    .rename_i t c
     have i:l.length=y.2.length:=by unfold eg at d;split at d <;> cases d;simp
     unfold fM at c;split at c
     .rename_i a
      simp only[bO,gR,dN,bd] at a;have:=od l.flatten;rw[a.2] at this;omega
     .cases c
 .cases h
def tw.VA{k:Int}{s:a9}(h:tw k s):lj s:=by
 have hl:s.2.1.length<=20:=by
  have:=AQ 1 h.sa λx a=>(h.sn x a).1
  omega
 have b:=h.log;simp only[kR,bO,bd,b6] at b;refine⟨h.len,λp c=>⟨(h.pk p c).no,(h.pk p c).len.2⟩,by omega,λx a=>⟨(h.sn x a).1,AT (h.sn x a).2⟩,b.2,λq e=>?_⟩
 have:=(p9 (p:=gq) (d:=(0,0))).1 b.1 q e;simp only[gq,bO,bd] at this;exact this.2
def LP{l:List (Int×Int)}(h:∀ x∈l,-4000000<=x.2/\x.2<=4000000):1<=pt l:=(sd l h).1
def LQ{s:a9}(h:lj s):1<=fD s:=by
 have:=LP h.OG.h;unfold fD;split <;> omega
def LR{s:a9}(h:lj s):1<=iA s:=by
 unfold iA;split
 .omega
 .rename_i a
  have:=(h.a2 _ (Ic a (0,[]))).1;omega
def lj.save{k:Int}{s:a9}{t:List bE}{by_:Int}(h:lj s)(j:s.2.1.length<=20)(d:dj t=ab)(c:jW k s t=ae):lj (mH k s by_ t):=by
 simp only[jW,Bool.or_eq_false_iff,bR] at c;obtain⟨q,p,n,m⟩:=c;have i:=LQ h;have o:=LR h;have e:=ue.1 d;unfold mH;refine⟨by simp only[bG];omega,λx a=>?_,by grind,λx a=>?_,by grind,λx a=>?_⟩
 .rcases fR.1 a with a|a
  .exact h.a2 x a
  .obtain⟨b,r,a1,a2,a3,a4,a5,rfl⟩:=yW k _ _ _ (wP (k:=k) (l:=indexOf s.1) (uf d)).1 x a;have a2:b<iA s+(yB k s t).length:=a2;exact⟨⟨by show 1<=b;omega,by show b<=99;omega⟩,by rw[LL];exact a4⟩
 .rcases fR.1 a with a|a
  .exact h.a4 x a
  .rw[kW] at a;subst a;refine⟨⟨i,by show fD s<=20;omega⟩,by show (t.map _).length<=6;rw[kY];exact e.2.2.2,λy g=>?_⟩
   obtain⟨f,c,rfl⟩:=mh.1 g;have h1:=(e.1 f c).2;simp only[dN,bO,bd] at h1;have h2:=od f.2;show ((pieces f.2).map _).length<=40;rw[kY];omega
 .rcases fR.1 a with a|a
  .exact h.a6 x a
  grind
section
open Go.Proofs
variable {X:Cx ah}
def E7(s:a9)(a:dL s):Ev X 41 [ey s] [] (ey s) []:=by
 refine(fp s a.p a.p2 a.sn a.s2 a.h).forget rfl ?_ rfl;simp[ag.cat,ag,aR.same]
abbrev A0:dg:=kN N0 (λs=>ey s) λs=>[dL s]
def Gs:dD X 41 A0:=.oH λs h=>E7 s h
def xm(w:cO)(c:dL w.1)(g:w.2.1.length<=4000000)(f:w.2.2.length<=4000000):Ev X 66 [IT w] [] (.e (.agg [qN cP w.1.1,qN cr w.1.2.1,qN cH w.1.2.2,qN cI w.2.1,.vec 0 1 w.2.2.length (cI.fn w.2.2)])) [.vec 3 1 w.2.2.length (cI.fn w.2.2)]:=by
 refine Ev.iV tok Tryz.func66 rfl rfl rfl λd=>?_
 have a:bD X [(41,A0)]:=.cons Gs .nil;refine aE a [(2000009,ab)] 200 rfl ?_ ?_
 .simp only[ag,cP.list_fn,cP.aH,cr.list_fn,cr.aH,cH.list_fn,cH.aH,c,aG,aF,show i3.bytes=8 from rfl,gd];and_intros <;> omega
 refine AK.norm [MS w,.cells 30 [qN cP w.1.1,qN cr w.1.2.1,qN cH w.1.2.2,qN cI w.2.1,.vec 2 1 w.2.2.length (cI.fn w.2.2)],.vec 3 1 w.2.2.length (cI.fn w.2.2)] rfl ?_ ?_
 .simp[ag,ag.cat,aR.same,cP.list_fn,cr.list_fn,cH.list_fn,gn]
 refine AK.dk () [2] rfl rfl rfl rfl rfl rfl rfl rfl ?_ rfl rfl rfl rfl (λj b=>absurd b (by simp))
 simp[ag,ag.cat,aR.same]
def Ip(w:cO)(c:dL w.1)(a:w.2.1.length<=4000000)(b:w.2.2.length<=4000000):Ev X 66 [IT w] [] (IT w) [] :=
 (xm w c a b).forget rfl (by simp[ag.cat,ag,aR.same]) rfl
abbrev vk:dg:=kN (Yp YH) (λw=>IT w) λw=>[dL w.1,w.2.1.length<=4000000,w.2.2.length<=4000000]
def A1:dD X 66 vk:=.oH λw h=>Ip w h.1 h.2.1 h.2.2
abbrev Zn(p:bw)(a:List cz):List aW:=[Oy p,.cells 55 [.c (.int .i64 0),dm],.cells 55 [.c (.int .i64 p.1),.vec 3 2 a.length (dx.fn a)],.vec 88 2 a.length (dx.fn a)]
def xn{α:Type}{l:List α}{q:α->Bool}{i:Nat}(h:i<l.length)(d:α):(l.take (i+1)).filter q=if q (l.getD i d)=ab then (l.take i).filter q++[l.getD i d] else (l.take i).filter q:=by
 rw[bu h d,oP,qZ];split <;> simp
def filter_le{α:Type}(l:List α)(q:α->Bool){i:Nat}(h:i<=l.length):((l.take i).filter q).length<=i:=ez (j1 _ _) (by simp;omega)
def Mw(p:bw)(ns:List Int)(g:p.2.length<=4000000):Ev X 89 [vf p,cI.sl ns] [] (vf (ja p ns)) []:=by
 refine Ev.iV tok Tryz.func89 rfl rfl rfl λm=>?_
 have b:bD X [(38,Cz)]:=.cons Gh .nil;refine aE b [(1000002,ab)] 200 rfl av ?_;refine AK.gi 2 1 88 2 (dx.fn []) rfl rfl ?_;refine aE b [] 100 rfl av ?_;refine AK.bJ 4 (λi=>i<=p.2.length) (λi:Nat=>[(1,cI.sl ns),(2,.e (.one (.ptr 0 0))),(4,.e (.one (.ptr 1 0))),(5,.e (.one (.ptr 2 0))),(6,dI i)])
  (λi=>Zn p ((p.2.take i).filter λx=>ns.contains x.1)) (λi=>p.2.length-i) 0 rfl (by simp[ag.cat,ag,aR.same]) rfl (by simp[ag.cat,ag,aR.same,aR.nil]) rfl (by omega) ?_
 intro i hi;have l:=filter_le p.2 (λx=>ns.contains x.1) hi
 by_cases h:i<p.2.length
 .have f:p.2.getD i dx.bC=fN p i:=rfl;have c:(p.2.take (i+1)).filter (λx=>ns.contains x.1)=if ns.contains (fN p i).1=ab then (p.2.take i).filter (λx=>ns.contains x.1)++[fN p i] else (p.2.take i).filter (λx=>ns.contains x.1):=xn h (0,[])
  generalize (p.2.take i).filter (λx=>ns.contains x.1)=a at *
  generalize fN p i=x at *;cases d:ns.contains x.1 with
  |true =>
   rw[bg d] at c;have g:=dx.cm a x;refine aE b [(15,ab),(25,ab)] 200 rfl ?_ (AK.aQ (i+1) rfl (by simp[ag.cat,ag,aR.same]) ?_ h (by omega))
   .simp[-ai,-List.contains_eq_mem,ag,f,h,d,cI.list_fn,cI.aH,bx,show i88.bytes=24 from rfl];omega
   .rw[c];simp only[ag.cat,ag,bt,f,bG,eh,aG,aF]
    and_intros <;> first|exact aR.same|exact g|rfl|omega
  |false =>
   rw[aY (by rw[d];simp)] at c
   refine aE b [(15,ab),(25,ae)] 200 rfl ?_ (AK.aQ (i+1) rfl (by simp[ag.cat,ag,aR.same]) ?_ h (by omega))
   .simp[-ai,-List.contains_eq_mem,ag,f,h,d,cI.list_fn,cI.aH,bx];omega
   .rw[c];simp[ag.cat,ag,aR.same]
 obtain rfl:i=p.2.length:=by omega
 rw[bY];refine aE b [(15,ae)] 100 rfl (by simp[ag]) (AK.leaveD rfl rfl ?_)
 refine aE b [] 100 rfl av ?_;refine AK.dk () [] rfl rfl rfl rfl rfl rfl rfl rfl ?_ rfl rfl rfl rfl (λj k=>absurd k (by simp))
 simp[ag,ag.cat,aR.same,ja]
abbrev Mx:dg:=ow (B7 dx) (aL cI) (λp ns=>vf (ja p ns)) λp _=>[p.2.length<=4000000]
def SI:dD X 89 Mx:=.qG λp ns h=>Mw p ns h
abbrev Th(w:cO)(b:Bool):D:=.eN [.agg (Vy w),.one (.c (.bool b))]
abbrev SJ:List A:=[dm,dm,dm,dm,dm]
def stepT(no:Int)(ms:List Int)(ps:List bw)(i:Nat):List bw:=jr no ms (ps.take i)
def Iq{no:Int}{ms:List Int}{ps:List bw}{i:Nat}(h:i<ps.length):stepT no ms ps (i+1)=if (k9 no ms (ps.getD i (0,[]))).2.length=0 then stepT no ms ps i else stepT no ms ps i++[k9 no ms (ps.getD i (0,[]))]:=by
 unfold stepT jr;rw[bu h (0,[]),me,oP,List.map_singleton]
 grind
def Ir(no:Int)(ms:List Int)(ps:List bw){i:Nat}(h:i<=ps.length):(stepT no ms ps i).length<=i:=by
 unfold stepT jr
 grind
def E8(w:cO)(b:dL w.1)(e:w.2.1.length<=4000000)(c:w.2.2=[]):Ev X 62 [IT w] [] (Th w ae) []:=by
 refine Ev.gy Tryz.func62 rfl rfl rfl λd=>?_
 have a:bD X [(66,vk)]:=.cons A1 .nil;refine aE a [(13,ab)] 200 rfl ?_ ?_
 .simp only[ag,cP.list_fn,cP.aH,cr.list_fn,cr.aH,cH.list_fn,cH.aH,cI.list_fn,cI.aH,b,c,aG,aF];simp;omega
 refine AK.freeze 2 1 rfl rfl rfl ?_;refine AK.mW tok [] rfl ?_ rfl rfl rfl iY;simp[ag.cat,ag,aR.same,cP.list_fn,cr.list_fn,cH.list_fn,cI.list_fn]
abbrev Zw(st:a9)(ms:List Int)(l:List Int)(a:List bw):List aW:=[MS (st,ms,l),.cells 30 SJ,MS (st,ms,l),.vec 55 2 a.length (cP.fn a)]
def _root_.Go.AM.hZ.O7{α:Type}(c:hZ α)(x:α)(l:List α){n:Nat}(h:n=l.length):aR n (jJ 1 (c.fn (x::l))) (c.fn l):=by
 intro i hi;simp only[jJ,hZ.fn,sH,ai,ln 1 i,mN]
def Fb(st:a9)(ms lf:List Int) (no:Int)(r:List Int)(c:lf=no::r)(s:dL st)(v:ms.length<=4000000)(x:lf.length<=4000000):Ev X 62 [IT (st,ms,lf)] [] (Th ((jr no ms st.1,st.2),ms,r) ab) []:=by
 refine Ev.gy Tryz.func62 rfl rfl rfl λA=>?_
 have g:bD X [(66,vk),(89,Mx)]:=.cons A1 (.cons SI .nil);have t:0<lf.length:=by rw[c];simp
 refine aE g [(13,ae),(1000005,ab)] 200 rfl ?_ ?_
 .simp only[ag,cP.list_fn,cP.aH,cr.list_fn,cr.aH,cH.list_fn,cH.aH,cI.list_fn,cI.aH,s,v,x,aG,aF,dv,cT];omega
 refine AK.ix 5 55 2 rfl rfl ?_;refine aE g [] 200 rfl av ?_;have w:=s.p;refine AK.bJ 4 (λi=>i<=st.1.length) (λi:Nat=>[(1,.e (.one (.ptr 0 0))),(2,.e (.one (.ptr 1 0))),(4,.e (.one (.ptr 2 0))),(5,.e (.one (.vec 3 2 (stepT no ms st.1 i).length (cP.fn (stepT no ms st.1 i))))),(6,dI i)])
  (λi=>Zw st ms lf (stepT no ms st.1 i)) (λi=>st.1.length-i) 0 rfl ?_ rfl ?_ rfl (by omega) ?_
 .simp[ag.cat,ag,aR.same,aR.nil,stepT,jr]
 .simp[ag.cat,ag,aR.same,aR.nil,stepT,jr,cP.list_fn,cr.list_fn,cH.list_fn,cI.list_fn]
 intro i hi
 by_cases h:i<st.1.length
 .have f:st.1.getD i cP.bC=st.1.getD i (0,[]):=rfl;have m:=s.p2 _ (iD h (0,[]));have b:=Iq (no:=no) (ms:=ms) h;have z:=Ir no ms st.1 hi;have o:lf.getD (Int.toNat 0) cI.bC=no:=by rw[c];rfl
  generalize stepT no ms st.1 i=a at *;generalize st.1.getD i (0,[])=p at *
  by_cases k:p.1=no
  .have j:k9 no ms p=ja p ms:=by unfold k9;rw[bg k]
   rw[j] at b;have l:=cP.cm a (ja p ms);have y:(ja p ms).2.length<=p.2.length:=j1 _ _;have d:(p.1,p.2)=p:=rfl
   by_cases n:(ja p ms).2.length=0
   .rw[bg n] at b;refine aE g [(21,ab),(36,ab),(44,ae)] 200 rfl ?_ (AK.aQ (i+1) rfl ?_ ?_ h (by omega))
    .simp only[ag,bt,f,o,d,m,dx.list_fn,dx.aH,cI.list_fn,cI.aH,bx,bd,bR,gR,aG,aF]
     and_intros <;> first|exact k|omega
    .rw[b];simp[ag.cat,ag,aR.same]
    .rw[b];simp[ag.cat,ag,aR.same]
   .rw[aY n] at b;refine aE g [(21,ab),(36,ab),(44,ab)] 200 rfl ?_ (AK.aQ (i+1) rfl ?_ ?_ h (by omega))
    .simp only[ag,bt,f,o,d,m,dx.list_fn,dx.aH,cI.list_fn,cI.aH,bx,show i55.bytes=32 from rfl,bd,bR,gR,aG,aF]
     and_intros <;> first|exact k|omega
    .rw[b];simp only[ag.cat,ag,bt,f,d,dx.list_fn,cI.list_fn,bG,eh,aG,aF]
     and_intros <;> first|exact aR.same|exact l|rfl|omega
    .rw[b];simp only[ag.cat,ag,bt,f,d,dx.list_fn,cI.list_fn,bG,eh,aG,aF]
     and_intros <;> first|exact aR.same|exact l|rfl|omega
  .have j:k9 no ms p=p:=by unfold k9;rw[aY k]
   rw[j] at b;have l:=cP.cm a p
   by_cases n:p.2.length=0
   .rw[bg n] at b;refine aE g [(21,ab),(36,ae),(44,ae)] 200 rfl ?_ (AK.aQ (i+1) rfl ?_ ?_ h (by omega))
    .simp only[ag,bt,f,o,bx,bd,bR,dv,cT,aG,aF]
     and_intros <;> first|exact k|omega
    .rw[b];simp[ag.cat,ag,aR.same]
    .rw[b];simp[ag.cat,ag,aR.same]
   .rw[aY n] at b;refine aE g [(21,ab),(36,ae),(44,ab)] 200 rfl ?_ (AK.aQ (i+1) rfl ?_ ?_ h (by omega))
    .simp only[ag,bt,f,o,bx,show i55.bytes=32 from rfl,bd,bR,dv,cT,aG,aF]
     and_intros <;> first|exact k|omega
    .rw[b];simp only[ag.cat,ag,bt,f,bG,eh,aG,aF]
     and_intros <;> first|exact aR.same|exact l|rfl|omega
    .rw[b];simp only[ag.cat,ag,bt,f,bG,eh,aG,aF]
     and_intros <;> first|exact aR.same|exact l|rfl|omega
 obtain rfl:i=st.1.length:=by omega
 have q:stepT no ms st.1 st.1.length=jr no ms st.1:=by unfold stepT;rw[bY]
 rw[q];refine aE g [(21,ae)] 200 rfl (by simp[ag]) (AK.leaveD rfl rfl ?_)
 refine aE g [] 200 rfl ?_ ?_
 .simp only[ag,cn,iN,aG,aF];omega
 refine AK.freeze 2 1 rfl rfl rfl ?_;refine AK.mW tok [] rfl ?_ rfl rfl rfl iY;have u:=cI.O7 no r rfl;rw[<-c] at u;simp only[ag.cat,ag,cn,aG,aF]
 and_intros <;> first|exact aR.same|exact u|(rw[c];simp;done)|grind|rfl
def VT(w:cO):Bool:=!w.2.2.isEmpty
def Iu(w:cO)(b:dL w.1)(a:w.2.1.length<=4000000)(d:w.2.2.length<=4000000):Ev X 62 [IT w] [] (Th (AS w) (VT w)) []:=by
 obtain⟨st,ms,c⟩:=w;cases c with
 |nil=>exact E8 (st,ms,[]) b a rfl
 |cons no r=>exact Fb st ms (no::r) no r rfl b a d
def yS(m:Int×Int):Bool:=decide (0<=m.1/\m.1<=9)&&decide (0<=m.2)
abbrev xR(w:ft)(i:Nat):Int×Int:=w.2.2.2.1.getD i (0,0)
abbrev xS(w:ft)(i:Nat):Int:=w.2.2.2.2.getD i 0
def uc(w:ft)(i:Nat):Bool:=yS (xR w i)&&decide (0<=xS w i/\xS w i<=2)
def fy(w:ft):Bool:=decide (w.2.2.2.1.length=2)&&decide (w.2.2.2.2.length=2)&&(bh 2).all (uc w)&&fx w.1 w.2.1
def LH(m:Int×Int):Ev X 17 [Ta.enc m] [] (dB (yS m)) []:=by
 refine Ev.bQ Tryz.func17 rfl λb=>?_
 have a:bD X [(18,pn)]:=.cons qf .nil
 by_cases c:0<=m.1/\m.1<=9
 .exact aE a [(6,ab)] 100 rfl (by simp[ag,c]) (AK.bo rfl (by simp[ag,yS,c]))
 .exact aE a [(6,ae)] 100 rfl (by simp[ag];omega) (AK.bo rfl (by simp only[ag,yS,dY c];simp))
def ud(w:ft)(n:OE w.2.1.1):Ev X 7 [Dl w] [] (dB (fy w)) []:=by
 refine Ev.bQ Tryz.func7 rfl λo=>?_
 have a:bD X [(17,kN Ta (λm=>dB (yS m)) λ_=>[]),(18,pn),(19,tr)]:=.cons (.oH λm _=>LH m) (.cons qf (.cons yR .nil))
 unfold fy
 by_cases k:w.2.2.2.1.length=2
 rotate_left
 .exact aE a [(8,ab),(13,ab)] 100 rfl (by simp[ag];omega) (AK.bo rfl (by simp[ag,dY k]))
 by_cases l:w.2.2.2.2.length=2
 rotate_left
 .exact aE a [(8,ae),(13,ab)] 100 rfl (by simp[ag];omega) (AK.bo rfl (by simp[ag,dY l]))
 refine aE a [(8,ae),(13,ae)] 100 rfl (by simp[ag];omega) ?_
 rw[ck k,ck l,dF,dF];refine AK.bJ 1 (λi=>i<=2/\∀ j,j<i->uc w j=ab) (λi:Nat=>[(1,.e (.one (.ptr 0 0))),(3,dI i)]) (λ_=>[.cells 35 (Ww w)]) (λi=>2-i) 0 rfl (by simp[ag.cat,ag]) rfl (by simp[ag.cat,ag,aR.same]) rfl ⟨by omega,by omega⟩ ?_
 rintro i ⟨hi,b⟩
 by_cases h:i<2
 .have f:w.2.2.2.1.getD i cH.bC=xR w i:=rfl;have c:w.2.2.2.2.getD i cI.bC=xS w i:=rfl;cases d:yS (xR w i) with
  |false =>
   refine aE a [(15,ab),(25,ab),(33,ab)] 100 rfl ?_ (AK.ee (bZ.zero rfl ?_))
   .simp[-ai,ag,f,d];omega
   .rw[dO h (by rw[uc,d];rfl)];simp[ag]
  |true =>
   by_cases g:0<=xS w i/\xS w i<=2
   .refine aE a [(15,ab),(25,ae),(33,ae)] 100 rfl ?_ (AK.aQ (i+1) rfl (by simp[ag.cat,ag]) (by simp[ag.cat,ag,aR.same]) ⟨h,fe b (by rw[uc,d,ck g];rfl)⟩ (by omega))
    simp[-ai,ag,f,c,d,bx];omega
   .refine aE a [(15,ab),(25,ae),(33,ab)] 100 rfl ?_ (AK.ee (bZ.zero rfl ?_))
    .simp[-ai,ag,f,c,d];omega
    .rw[dO h (by rw[uc,dY g,Bool.and_false])];simp[ag]
 obtain rfl:i=2:=by omega
 rw[b6.2 b,dF];refine aE a [(15,ae)] 100 rfl (by simp[ag]) (AK.leaveD rfl rfl ?_)
 refine aE a [] 100 rfl ?_ (AK.bo rfl ?_)
 .simp[ag.cat,ag,cP.list_fn,cP.aH,cr.list_fn,cr.aH,cH.list_fn,cH.aH,cI.list_fn,cI.aH,n]
 .simp[ag,cP.list_fn,cr.list_fn,cH.list_fn,cI.list_fn]
end
end Go.AM.R1
namespace Go.AM
section
open Go.Conc (G)
section
variable {P:aq}{X:Cx P}{N:Nat}{Qf:Post}{K:List It}{φ:Fr}{σ:List aW}{all rest:List aw}{o:aw}
def BG(P:aq)(N:Nat)(o:aw)(φ:Fr)(σ:List aW){ι:Type}(x:ι->D)(σ':ι->List aW):Prop :=
 ∀ s a,cp N σ s φ a->aJ σ s->∃ i b s' v,(ay a.eval o).run P s.w=.ok b s'.w/\(b=.value v∨(b=.skip/\v=aj))/\c8 (σ' i) s' v (x i)/\aJ (σ' i) s'/\Step σ s (σ' i) s'/\eU s ((ay a.eval o).events P s.w #[])
def rU.QL{ι:Type}{x:ι->D}{σ':ι->List aW}(n:o.guard=af)(h:BG P N o φ σ x σ'):rU X N all o φ σ x σ':=by
 intro s a f hh b k cs S i rest hb hi hK;refine zK hb hi (dq n) λm d=>?_
 have c:=hh.rely d;obtain⟨j,q,s',v,h1,h2,p,e,g,l⟩:=h m a (f.rely d hh) c;exact⟨q,s',v,h1,h2,⟨⟨σ,σ' j,c,e,g⟩,l⟩,hK j v s' p e (d.stepW.trans (g.oo c))⟩
def rU.u5{ι:Type}{v:an}{xs:Array an}{B:Array ar}{f:aV}{cap:List C}{d:List D}{l:List aW}{σ1:ι->List aW}{res:ι->D}(t:cD X f d l res σ1)(ks:List Nat)
  (E:o.guard=af) (G:o.op=.call { callee:=.value v,args:=xs,argTypes:=B }) (u:eO (bX φ v)=aa (f,cap)) (m:oq (xs.toList.map (bX φ)++gj cap)=iT ks d) (y:oC ks.length d=ab)
  (x:kA ks σ=aa l) (I:cU l=ab) (A:∀ j,cU (σ1 j)=ab) (hn:dM ks=ab) (z:∀ j,bq ks.length (σ1 j).length=ab) :
  rU X N all o φ σ (λj=>jm (ks++mV σ.length ((σ1 j).length-ks.length)) (res j)) (λj=>dZ ks (σ1 j) σ):=by
 intro s a p hh b kk cs S i rest hb hi hK;have q:=dK p v;unfold eO at u;split at u
 case h_2=>cases u
 case h_1 f' IV he =>
  cases u;rw[he] at q;have g:=fC q;generalize H:a.eval v=fv at g;cases g with
  |fn fs l8 hl A8 f1 f2 h1 h2 r1 r2 =>
   have F:fs=[]:=gf hl;subst F;have k:cv σ s l8 (gj cap):=lI (λj c hj=>⟨f2 j,h2 j (by grind),r2 j c hj⟩) A8
   have n:cv σ s (xs.toList.map a.eval++l8) (iT ks d):=by
    rw[<-m];exact rG ((nP (dK p) xs.toList).append k)
   obtain⟨fn,r,h,e⟩:=t.1;exact sO hb hi (dq E) hh (λw=>(gM G r h e H w).1) (λw=>(gM G r h e H w).2) t n y x I A hn (λj=>c7 (z j)) hK
def BG.fresh{x y:an}{E:ar}{G:TI}(h:mj P o x y E G){k0 k m:Nat}{tx:Bool}{es es':Nat->List C}(Z:G.size=k)(S:bX φ x=.e (.one (.c (.sl ab k0 0 es))))(hy:bX φ y=.e (.one (.c (.sl tx k m es'))))(O:0<m)
  (hb:m*G.bytes<=140737488355328) (W:∀ i,i<m->∀ c∈es' i,vr c=ab) :
  BG P N o φ σ (ι:={ q:qQ×List ak // dT k m es' q.2 }) (λq=>.e (.one (.v (lu q.1.1 m)))) (λq=>σ++[.dz (ia E k q.1.1 m q.1.2)]):=by
 intro s ρ hf hh;obtain⟨t,t2,i,i2,ho,hi,hd,H,I⟩:=h.op;have h1:=dK hf x;rw[S] at h1;have n:=Rd.uV (k:=k0) (k':=G.size) (.inr rfl) (fC h1);have h2:=dK hf y;rw[hy] at h2;have h2:=fC h2;obtain⟨a,cap,vs,V,Dy,IF,ht,hF,S6⟩:=n.flat;have hcn:cap=0:=ht rfl;subst hcn;rw[V] at n;have J:Rd s.M (ρ.eval y) (.sl tx G.size m es'):=by rw[Z];exact h2
 obtain⟨f,Y,g,d,D,T,r,z⟩:=iu (P:=P) (ty:=o.type) hi hd H I h.elem hh n J (by omega) (by rw[br];exact hb) h.bytes
 have IX:=iR (P:=P) (ty:=o.type) hi hd H I h.elem hh n J (by omega) (by rw[br];exact hb) h.bytes
 have e0:cJ 0 es es'=es':=by funext i;simp[cJ]
 rw[Z,br,e0] at d;rw[Z] at r;rw[br] at D z;have F:dT k m es' f:=⟨d.len,d.width,λi hi j c hj=>by
  obtain⟨u,Q,R⟩:=d.rd i hi j c hj;exact⟨u,Q,λM=>rC (W i hi c (bM hj)) R⟩⟩
 have A:∀ x∈f,cX x=ab:=λx S=>by
  obtain⟨p,hp,rfl⟩:=dX S;have hk:0<k:=by have:=h.size;omega
  have U:=d.len;have hi:p / k<m:=pz (by rw[jD,<-U];exact hp)
  have Pa:p / k*k+p % k=p:=pA p k;have hj:p % k<(es' (p / k)).length:=by rw[d.width _ hi];exact hJ _ hk
  obtain⟨u,Q,R⟩:=F.at' _ hi _ _ (bl hj);rw[Pa,bl hp] at Q;cases Q;exact(R s.M).cell
 let w':az:=s.w.drew.alloc (.cells (f++Y).toArray E)
 have hB:eJ (σ++[.dz (ia E k (.row s.w.heap.size g) m f)]) { s with w:=w',β:=s.β++[⟨.nilFunc,[s.w.heap.size]⟩] } (.dz (ia E k (.row s.w.heap.size g) m f)) ⟨.nilFunc,[s.w.heap.size]⟩:=by
  refine⟨λB=>if B=s.w.heap.size then aa (.cells (f++Y).toArray E (0,0)) else af,⟨rfl,A,d.len,D,T,Y,r,rfl⟩,λB o l=>?_,λB=>?_,λB l o=>?_⟩
  .by_cases e:B=s.w.heap.size
   .subst e;simp only[cj] at l;cases l;exact dt s.w.drew _
   .simp[e] at l
  .by_cases e:B=s.w.heap.size <;> simp[e]
  .simp at l;subst l;cases O:s.M s.w.heap.size o with
   |none=>rfl
   |some v=>have:=hh.block O;omega
 have IG:w'.heap.size=s.w.heap.size+1:=by show (s.w.drew.heap.push _).size=_;simp
 have L:aJ σ { s with w:=w' }/\Step σ s σ { s with w:=w' } :=
  hh.grow (by omega) (λb hb=>cE s.w.drew _ hb) (λb hb o=>rfl) (λb hb o v O=>by
   have:=hh.block O;omega) rfl rfl rfl
 obtain⟨g1,g2⟩:=L.1.gT L.2 rfl hh hB (λb hb=>by
   grind)
 refine⟨⟨(.row s.w.heap.size g,f),F⟩,.value (.slice (aa ⟨s.w.heap.size,0,af⟩) m g),_,_,?_,.inl rfl,Rd.val rfl,g1,g2,?_⟩
 .rw[cY ho,V];simp[z];rfl
 .rw[cY ho,V];exact eu IX
def AK.fresh{x y:an}{E:ar}{b:TI}(h:mj P o x y E b){n k m:Nat}{tx:Bool}{es es':Nat->List C}(f:b.size=k)(d:bX φ x=.e (.one (.c (.sl ab n 0 es))))(l:bX φ y=.e (.one (.c (.sl tx k m es'))))(p:0<m)
  (hb:m*b.bytes<=140737488355328) (a:∀ i,i<m->∀ c∈es' i,vr c=ab) (g:o.guard=af) (j:gv N o.dst=ab)
  (kk:∀ q:{ q:qQ×List ak // dT k m es' q.2 },AK X N Qf (.ops all rest::K) .normal (lr o.dst (.e (.one (.v (lu q.1.1 m)))) φ) (σ++[.dz (ia E k q.1.1 m q.1.2)])):AK X N Qf (.ops all (o::rest)::K) .normal φ σ :=
 AK.hand _ _ g j (BG.fresh h f d l p hb a) kk
def AK.spare(E:ar)(k:Nat){c:Code}(kk:AK X N Qf (.code c::K) .normal φ (σ++[.dz (ia E k (.nil af) 0 [])])):AK X N Qf (.code c::K) .normal φ σ:=by
 refine AK.ghost (λs a b hh=>?_) kk
 obtain⟨d,g2⟩:=hh.gT (B:=.dz (ia E k (.nil af) 0 [])) (L:=⟨.nilFunc,[]⟩) (.refl _ _) rfl hh ⟨λ_=>af,⟨rfl,by simp,by simp,rfl,rfl⟩,by simp,by simp,by simp⟩ (by simp)
 exact⟨{ s with β:=s.β++[⟨.nilFunc,[]⟩] },rfl,⟨b.size,b.defers.imp λ_ h1=>h1.mono g2.ext,λu=>(b.slot u).mono g2.ext hh.len⟩,d,g2⟩
end
def Pv(u:ak)(k m:Nat)(es:Nat->List C)(c a:C):Prop:=a=c∨(c=.val u/\a=.sl ae k m es)
def aJ.zL{σ1 σ2:List aW}{s:St}{E:ar}{k n:Nat}{bf:qQ}{xs:List ak}{es:Nat->List C}(hh:aJ (σ1++[.dz (ia E k bf n xs)]) s)(t:dT k n es xs){m:Nat}{E0:ar}{p f:Nat}{e a:Nat->List C}(O:σ1[m]?=aa (.buf E0 p f e))
  (W9:σ2=σ1.set m (.buf E0 p f a)) (H:rJ σ2.length σ2=ab) (hw:∀ i,i<f->(a i).length=(e i).length) (hc:∀ i,i<f->∀ (j:Nat) (D:C),(a i)[j]?=aa D->∃ c,(e i)[j]?=aa c/\Pv (lu bf n) k n es c D) :
  ∃ s2:St,aJ σ2 s2/\eK s s2/\(∀ v d,c8 (σ1++[.dz (ia E k bf n xs)]) s v d->uw σ2.length d=ab->c8 σ2 s2 v d)/\∀ {σ0:List aW} {s0:St},cw σ0 s0 (σ1++[.dz (ia E k bf n xs)]) s->σ0.length<=σ2.length->cw σ0 s0 σ2 s2:=by
 have V:m<σ1.length:=(cg.1 O).1;have hB:(σ1++[aW.dz (ia E k bf n xs)])[σ1.length]?=aa (.dz (ia E k bf n xs)):=by simp
 obtain⟨L,M',hL,Z,m2,G,m0,m4⟩:=ia.Fq hB es (λi hi=>⟨t.wid i hi,λM j c x hj hx=>by
  obtain⟨y,y1,y2⟩:=t.at' i hi j c hj;rw[hx] at y1;cases y1;exact y2 M⟩) s hh
 obtain⟨A,q2⟩:=hh.im (M':=M') (w':=s.w) (B':=.dead) (L':=⟨L.v,[]⟩) hB hL rfl (bc _) (λ_ _ _=>rfl) (λb _ hb o=>m2 b hb o) Z G (by simp) rfl rfl rfl av
 have z:(σ1++[aW.dz (ia E k bf n xs)]).set σ1.length .dead=σ1++[.dead]:=by simp
 rw[z] at A q2;have B:(σ1++[aW.dead])[m]?=aa (.buf E0 p f e):=by grind
 have U:=A.len;have g:=bl (l:=s.β.set σ1.length ⟨L.v,[]⟩) (i:=m) (by
  grind)
 generalize (s.β.set σ1.length ⟨L.v,[]⟩)[m]'_=L0 at g;have R:=A.box m _ L0 B g;have q:il (.buf E0 p f e) L0 (.buf E0 p f a) L0:=⟨λ_=>rfl,bc _⟩
 have S:(s.β.set σ1.length ⟨L.v,[]⟩).set m L0=s.β.set σ1.length ⟨L.v,[]⟩:=by
  apply iK
  grind
 obtain⟨r1,r2⟩:=A.im (M':=M') (w':=s.w) (B':=.buf E0 p f a) (L':=L0) B g q (bc _) (λ_ _ _=>rfl) (λ_ _ _ _=>rfl) (λ_ _ _ h=>h) G
  (λb hb=>⟨.inl hb,A.lt L0 (bM g) b hb⟩) rfl rfl rfl (by
   rcases R with⟨e1,e2⟩|⟨b,c0,vs,zs,e1,e2,e3,e4,e5,J,e6⟩
   .exact .inl ⟨e1,e2⟩
   .refine .inr ⟨b,c0,vs,zs,e1,e2,e3,e4,e5,⟨J.len,λi hi=>by rw[hw i hi];exact J.width i hi,λi hi j D hj=>?_⟩,e6⟩
    obtain⟨c,W,Q⟩:=hc i hi j D hj;obtain⟨u,u1,Y⟩:=J.rd i hi j c W;refine⟨u,u1,?_⟩;rcases Q with rfl|⟨rfl,rfl⟩
    .exact Y
    .rw[Rd.fX Y];exact m4)
 have F:(σ1++[aW.dead]).set m (.buf E0 p f a)=σ2++[.dead]:=by grind
 rw[F] at r1 r2;have st:=q2.trans r2;refine⟨_,r1.drop (rest:=[.dead]) H,⟨rfl,Z,λb hb o=>m2 b (hb L (bM hL)) o,G,λb hb=>?_⟩,λv d r hd=>(r.mono st.ext hh.len).drop (rest:=[.dead]) hd,λ{σ0 s0} I q=>(I.trans (st.oo hh)).drop (rest:=[.dead]) q⟩
 rcases hb with hb|⟨L',T,hb⟩
 .exact .inl hb
 .have h1:=iI T
  grind
def cD.zL{P:aq}{ι:Type}{X:Cx P}{f:aV}{args:List D}{σ:List aW}{res:ι->D}{σ1 σ2:ι->List aW}{E k n:Nat}{bf:ι->qQ}{xs:ι->List ak}{es:Nat->List C}(h:cD X f args σ res (λi=>σ1 i++[.dz (ia E k (bf i) n (xs i))]))
  (r:∀ i,dT k n es (xs i)) (t:Nat) {E0:ar} {w l:Nat} {a:ι->Nat->List C} {b:Nat->List C} (m:∀ i,(σ1 i)[t]?=aa (.buf E0 w l (a i)))
  (e:∀ i,σ2 i=(σ1 i).set t (.buf E0 w l b)) (p:∀ i,rJ (σ2 i).length (σ2 i)=ab) (d:∀ i,uw (σ2 i).length (res i)=ab) (g:∀ i,σ.length<=(σ2 i).length)
  (x:∀ i q,q<l->(b q).length=(a i q).length) (y:∀ i q,q<l->∀ (j:Nat) (u:C),(b q)[j]?=aa u->∃ c,(a i q)[j]?=aa c/\Pv (lu (bf i) n) k n es c u):cD X f args σ res σ2:=by
 refine⟨h.1,λs vs hr hh S cs hS=>h.2 s vs hr hh S cs λi fr v s' hl mR ld st=>?_⟩
 obtain⟨s2,c1,c2,c3,c4⟩:=ld.zL (r i) (m i) (e i) (p i) (x i) (y i);exact .ghost c2 (hS i fr v s2 (hl.mono c2.mem) (c3 v _ mR (d i)) c1 (c4 st (g i)))
end
end Go.AM
namespace Go.AM.R1
section
open Go.Proofs
variable {X:Cx ah}
def PU{o:aw}{x y:an}(h:o.op=.call { callee:=.builtin .append,args:=#[x,y],argTypes:=#[53,53] }):mj ah o x y 88 i88 :=
 ⟨⟨53,53,i53,i53,h,YD,rfl,YD,rfl⟩,g88,by decide,by decide⟩
def Gc(l:List cz)(n:Nat):∀ i,i<n->∀ c∈dx.fn l i,vr c=ab:=by
 intro i _ c a;have:dx.fn l i=[.int .i64 (l.getD i dx.bC).1,.str (l.getD i dx.bC).2]:=rfl;rw[this] at a;rcases eY.1 a with rfl|a
 .rfl
 .rcases eY.1 a with rfl|a
  .rfl
  .cases a
abbrev Own(l:List cz):Type:={ q:qQ×List ak // dT 2 l.length (dx.fn l) q.2 }
abbrev HI(l:List cz)(q:Own l):aW:=.dz (ia 88 2 q.1.1 l.length q.1.2)
abbrev EH(l:List cz)(q:Own l):C:=.val (lu q.1.1 l.length)
def HJ(l:List cz)(f:0<l.length)(h:l.length<=4000000):cD (ι:=Own l) X 80 [dx.sl l] [] (λq=>.e (.one (.c (EH l q)))) (λq=>[HI l q]):=by
 refine cD.ox Tryz.func80 rfl rfl rfl λg=>?_
 refine bm rfl av ?_;refine AK.BN tok rfl rfl rfl rfl rfl rfl λb a=>?_
 cases b with
 |true=>have:=a rfl;omega
 |false =>
  refine aX [] 7 rfl av ?_;refine AK.fresh (PU rfl) rfl rfl rfl f (by show _*24<=_;omega) (Gc l _) rfl rfl λq=>?_
  refine bm rfl av ?_;refine AK.k6 q (AK.dA [0] rfl ?_ rfl rfl rfl (λj d=>absurd d (by simp)))
  simp[ag]
def xO(p:bw)(d:0<p.2.length)(a:p.2.length<=4000000):cD (ι:=Own p.2) X 43 [vf p] [] (λq=>.e (.agg [.c (.int .i64 p.1),.c (EH p.2 q)])) (λq=>[HI p.2 q]):=by
 refine cD.gy tok Tryz.func43 rfl rfl rfl λf=>?_
 refine bm rfl av ?_;refine AK.cP (HJ p.2 d a) [] rfl (λ_=>rfl) ?_
 intro q;refine bm rfl av ?_;refine AK.dk q [2] rfl rfl rfl rfl rfl rfl rfl rfl ?_ rfl rfl rfl rfl (λj b=>absurd b (by simp))
 simp[ag,ag.cat,aR.same]
end
end Go.AM.R1
namespace Go.AM
section
open Go.Conc (G)
def NA(p:Nat->Bool):List Nat->Bool
 |[]=>ae
 |e::r=>match p e with|true=>ab|false=>NA p r
def FQ{p:Nat->Bool}:∀ {l:List Nat},NA p l=ab->∃ e∈l,p e=ab
 |[],h=>by cases h
 |e::r,h=>by
  simp only[NA] at h;split at h
  .rename_i a;exact⟨e,by simp,a⟩
  .obtain⟨d,c,b⟩:=FQ h;grind
def wi(all:List aw)(k:Nat):Nat->List Nat->Bool
 |0,l=>fI k l
 |f+1,l=>match fI k l with|true=>ab|false=>NA (λe=>wi all k f (bP (all.getD e fV).after.toList)) l
def s8{all:List aw}{k:Nat}{L:Nat->Prop}(c:∀ i,i<all.length->L i->∀ e∈bP (all.getD i fV).after.toList,L e):∀ {f:Nat}{l:List Nat},wi all k f l=ab->(∀ e∈l,L e)->L k
 |0,l,h,a=>a k (Bt h)
 |f+1,l,h,a=>by
  simp only[wi] at h;split at h
  .rename_i m;exact a k (Bt m)
  .obtain⟨e,j,b⟩:=FQ h;rcases cx e all.length with g|g
   .exact s8 c b (c e g (a e j))
   .have:all.getD e fV=fV:=by grind
    rw[this] at b;exact s8 c b (λn d=>by simp[fV,bP] at d)
def wj(all:List aw)(f:Nat)(l:List Nat):Nat->Bool
 |0=>ab
 |n+1=>match wi all n f l with|true=>wj all f l n|false=>ae
def yn{all:List aw}{f:Nat}{l:List Nat}:∀ {n:Nat},wj all f l n=ab->∀ k,k<n->wi all k f l=ab
 |0,_,k,a=>by omega
 |n+1,h,k,a=>by
  simp only[wj] at h;split at h
  .rename_i b
   by_cases e:k=n
   .subst e;exact b
   .exact yn h k (by omega)
  .cases h
def zX(all:List aw)(f:Nat):Nat->Nat->Bool
 |_,0=>ab
 |i,r+1=>match wj all f (bP (all.getD i fV).after.toList) i with|true=>zX all f (i+1) r|false=>ae
def yo{all:List aw}{f:Nat}:∀ {i r:Nat},zX all f i r=ab->∀ q,i<=q->q<i+r->wj all f (bP (all.getD q fV).after.toList) q=ab
 |i,0,_,q,c,b=>by omega
 |i,r+1,h,q,c,b=>by
  simp only[zX] at h;split at h
  .rename_i a
   by_cases e:q=i
   .subst e;exact a
   .exact yo h q (by omega) (by omega)
  .cases h
section
variable {P:aq}{X:Cx P}{N:Nat}{φ:Fr}{σ:List aW}
def G2{ι:Type}(c:Nat)(pre:Nat->Bool)(x:Nat->D)(y:ι->Nat->D)(j:ι)(i:Nat):D:=match Nat.blt i c with|true=>qE pre x y j i|false=>.any
def AK.NB{ι:Type}(w:P.follows Departure.mixedOrders=ab)(m c f:Nat)(pre:Nat->Bool)(x:Nat->D)(y:ι->Nat->D)(σ':ι->List aW){ops:Array aw}{id:Nat}{K:List It}{Qf:Post}
  (b:mv ops.toList=ab) (d:rV ops.toList 0=ab) (l:n3 N ops.toList=ab) (s:pre m=ae) (t:xI pre m ops.toList 0=ab)
  (u:Nat.blt c ops.toList.length=ab) (n:Nat.blt m c=ab) (e:∀ i,pre i=ab->i<c) (S8:zX ops.toList f c (ops.toList.length-c)=ab)
  (one:qC X N ops.toList φ σ x pre ops.toList 0) (two:∀ j,qD X N ops.toList φ (σ' j) (G2 c pre x y j) m (ops.toList.take c) 0)
  (G1:rU X N ops.toList (ops.toList.getD m fV) (m6 ops.toList φ x m) σ (λj=>G2 c pre x y j m) σ')
  (k:∀ j,AK X N Qf (.ops ops.toList (ops.toList.drop c)::K) .normal (MK ops.toList φ (G2 c pre x y j)) (σ' j)):AK X N Qf (.code (.region id ops ab)::K) .normal φ σ:=by
 have u:=c7 u;have n:=c7 n;have:=AW.reg (X:=X) (N:=N) (φ:=φ) (σ:=σ) w (all:=ops.toList) c (λa:Option ι=>a.elim x (G2 c pre x y)) (λa _=>a.elim σ σ') (λa D=>a.isSome=D m/\(a=af->∀ i,D i=ab->pre i=ab)) af ⟨rfl,λ_ _ h=>by cases h⟩ rfl b d l (by omega)
  (λi h1 h2 L z g k v=>s8 z (yn (yo S8 i h1 (by omega)) k v) g)
  (λa D r p i h1 h2=>by
   obtain⟨j,rfl⟩:=r6 r n p;have:Nat.blt i c=ae:=by
    cases hb:Nat.blt i c with
    |false=>rfl
    |true=>have:=c7 hb;omega
   simp only[Option.elim,G2,this])
  (zW (S:=λj _=>σ' j) s t (λj i g=>by
    have:Nat.blt i c=ab:=qU (e i g);simp only[G2,this,qE,g])
   (λi o hi g=>by have:=one.get i o hi (by rwa [br]);rwa [br] at this)
   (λj D i o hi Dg ur _ _=>by
    have q:(ops.toList.take c)[i]?=aa o:=by grind
    have:=(two j).get i o q (by rwa [br]);rwa [br] at this)
   (λo A=>by grind) (λ_ _ _=>rfl))
  (Q:=AK X N Qf K) (λa D r p=>by
   obtain⟨j,rfl⟩:=r6 r n p;exact k j) id
 rw[oM] at this;exact this
end
end
end Go.AM
namespace Go.AM.R1
section
open Go.Proofs
variable {X:Cx ah}
def Dk(ps:List bw)(i0:Nat)(u:ak)(j:Nat):C:=if j=i0 then .val u else .sl ae 2 (ps.getD j (0,[])).2.length (dx.fn (ps.getD j (0,[])).2)
def iZ(ps:List bw)(i0:Nat)(u:ak)(j:Nat):List C:=[.int .i64 (ps.getD j (0,[])).1,Dk ps i0 u j]
def yM{ps:List bw}{i0 i:Nat}{u:ak}(h:i≠i0):aR (i+1) (cJ i (iZ ps i0 u) (λq=>[cP.enc (ps.getD i (0,[]))].getD q [])) (iZ ps i0 u):=λj a=>by
 unfold cJ;split
 .rfl
 .have:j=i:=by omega
  subst this;rw[pG];simp only[iZ,Dk,aY h];rfl
def wT{ps:List bw}{i0:Nat}{u u':ak}:aR (i0+1) (cJ i0 (iZ ps i0 u') (λq=>[[.int .i64 (ps.getD i0 (0,[])).1,.val u]].getD q [])) (iZ ps i0 u):=λj a=>by
 unfold cJ;split
 .simp only[iZ,Dk,aY (show j≠i0 by omega)]
 .have:j=i0:=by omega
  subst this;rw[pG];simp only[iZ,Dk,bg];rfl
abbrev S3:Type:=Nat×qQ×Nat×List ak
def I3(ps:List bw)(i0:Nat)(x:S3):Prop:=x.1<=ps.length/\((x.1<=i0/\x.2.2.1=0)∨(i0<x.1/\x.2.2.1=(ps.getD i0 (0,[])).2.length/\dT 2 (ps.getD i0 (0,[])).2.length (dx.fn (ps.getD i0 (0,[])).2) x.2.2.2))
abbrev YE(x:S3):aW:=.dz (ia 88 2 x.2.1 x.2.2.1 x.2.2.2)
abbrev u3(x:S3):ak:=lu x.2.1 x.2.2.1
def wU(s:a9)(i0:Nat)(A:i0<s.1.length)(n:0<(s.1.getD i0 (0,[])).2.length)(B:s.1.length<=4000000)(d:∀ p∈s.1,p.2.length<=4000000)(F:s.2.1.length<=4000000)(r:jQ s)(y:s.2.2.length<=4000000) :
  cD (ι:=Own (s.1.getD i0 (0,[])).2) X 24 [ey s] [] (λ_=>.e (.agg [.bp 0 (.sl s.1.length 2 0 s.1.length),.bp 1 (.sl s.2.1.length 2 0 s.2.1.length),.c (.sl ae 2 s.2.2.length (cH.fn s.2.2))]))
   (λq=>[.buf 55 2 s.1.length (iZ s.1 i0 (lu q.1.1 (s.1.getD i0 (0,[])).2.length)),.buf 59 2 s.2.1.length (cr.fn s.2.1),HI (s.1.getD i0 (0,[])).2 q]):=by
 refine cD.gy tok Tryz.func24 rfl rfl rfl λC=>?_
 have a:bD X [(43,F4),(44,F5)]:=.cons KN (.cons KO .nil);refine aE a [(1000002,ab)] 100 rfl av ?_;refine AK.nq 2 0 55 2 (cP.fn []) rfl rfl ?_;refine AK.nq 2 1 59 2 (cr.fn []) rfl rfl ?_;refine AK.spare 88 2 ?_;refine aE a [] 100 rfl av ?_;refine AK.bJ 6 (I3 s.1 i0) (λx:S3=>[(1,.e (.one (.ptr 0 0))),(2,.e (.one (.ptr 1 0))),(3,.e (.one (.ptr 2 0))),(9,cP.sl s.1),(10,dI s.1.length),(11,dI x.1)])
  (λx=>[.cells 27 [.c (.sl ae 2 s.1.length (cP.fn s.1)),.c (.sl ae 2 s.2.1.length (cr.fn s.2.1)),.c (.sl ae 2 s.2.2.length (cH.fn s.2.2))],.cells 27 [dm,dm,dm],.cells 27 [.bp 3 (.sl x.1 2 0 x.1),.bp 4 (.sl 0 2 0 0),dm],.buf 55 2 x.1 (iZ s.1 i0 (u3 x)),.buf 59 2 0 (cr.fn []),YE x]) (λx=>s.1.length-x.1) (0,.nil af,0,[]) rfl ?_ rfl ?_ rfl ⟨by omega,.inl ⟨by omega,rfl⟩⟩ ?_
 .simp[ag.cat,ag,aR.same]
 .simp[ag.cat,ag,aR]
 rintro⟨i,bf,m,xs⟩ ⟨hi,o⟩;simp only at hi o
 by_cases h:i<s.1.length
 .have g:s.1.getD i (0,[])∈s.1:=by grind
  have b:s.1.getD (i:Int).toNat cP.bC=s.1.getD i (0,[]):=by rw[bt];rfl
  by_cases v:i=i0
  .subst v;have t:m=0:=by rcases o with⟨_,E⟩|⟨D,_⟩ <;> omega
   have w:=d _ g;refine aE a [(12,ab),(1000005,ab)] 100 rfl ?_ ?_
   .simp only[ag,bx,bd,aG,aF];and_intros <;> omega
   rw[b];generalize f:s.1.getD i (0,[])=p at *;refine AK.NB (ι:=Own p.2) en 3 5 4 (λk=>bq k 2) (λk=>[.e (.one (.ptr 2 0)),.e (.one (.bp 3 (.sl i 2 0 i))),vf p].getD k .any) (λq k=>[.any,.any,.any,.e (.agg [.c (.int .i64 p.1),.c (EH p.2 q)]),.e (.one (.c (.sl ab 2 1 (λj=>[[.int .i64 p.1,EH p.2 q]].getD j []))))].getD k .any)
    (λq=>[.cells 27 [.c (.sl ae 2 s.1.length (cP.fn s.1)),.c (.sl ae 2 s.2.1.length (cr.fn s.2.1)),.c (.sl ae 2 s.2.2.length (cH.fn s.2.2))],.cells 27 [dm,dm,dm],.cells 27 [.bp 3 (.sl i 2 0 i),.bp 4 (.sl 0 2 0 0),dm],.buf 55 2 i (iZ s.1 i (lu bf m)),.buf 59 2 0 (cr.fn []),.dz (ia 88 2 bf m xs),.cells 55 [.c (.int .i64 p.1),.c (.sl ae 2 p.2.length (dx.fn p.2))],HI p.2 q])
    rfl rfl rfl rfl rfl rfl rfl (λk h=>by have:=c7 h;omega) rfl
    ⟨OA.cd tok a rfl,OA.cd tok a rfl,OA.cd tok a rfl,av,av,av,av,av,av⟩
    (λq=>⟨OA.cd tok a rfl,OA.cd tok a rfl,OA.cd tok a rfl,av,OA.cd tok a rfl,av⟩)
    (rU.u5 (xO p n w) [] rfl rfl rfl rfl rfl rfl rfl (λ_=>rfl) rfl (λ_=>rfl)) λq=>?_
   refine aE a [(1000006,ab)] 100 rfl ?_ ?_
   .simp only[ag,show i55.bytes=32 from rfl,aG,aF];and_intros <;> omega
   refine AK.swap 5 7 (by decide) rfl rfl (λ_ _ h=>h.1) (λ_ _ h=>h.1) ?_
   refine aE a [] 100 rfl ?_ (AK.aQ (i+1,q.1.1,p.2.length,q.1.2) rfl ?_ ?_ ?_ ?_)
   .simp only[ag,bx,aF];omega
   .simp[ag.cat,ag,aR.same]
   .have e:=wT (ps:=s.1) (i0:=i) (u:=lu q.1.1 p.2.length) (u':=lu bf m);rw[f] at e;simp only[ag.cat,ag,aF,aG];exact⟨⟨aR.same,aR.same,aR.same⟩,⟨aR.same,aR.same,aR.same⟩,⟨rfl,aR.same⟩,e,aR.same⟩
   .refine⟨by show i+1<=_;omega,.inr ⟨by show i<i+1;omega,?_⟩⟩
    rw[f];exact⟨rfl,q.2⟩
   grind
  .refine aE a [(12,ab)] 100 rfl ?_ (AK.aQ (i+1,bf,m,xs) rfl ?_ ?_ ?_ ?_)
   .have q:=d _ g;simp only[ag,b,dx.list_fn,bx];exact⟨by omega,av,av,show (i+1)*32<=_ by omega,dx.aH _,q,by omega,by omega,ck (by omega)⟩
   .simp[ag.cat,ag,aR.same]
   .have e:=yM (ps:=s.1) (u:=lu bf m) v;simp only[ag.cat,ag,b,dx.list_fn,aF,aG];exact⟨⟨aR.same,aR.same,aR.same⟩,⟨aR.same,aR.same,aR.same⟩,⟨rfl,aR.same⟩,e,aR.same⟩
   .refine⟨by show i+1<=_;omega,?_⟩
    grind
   grind
 obtain rfl:i=s.1.length:=by omega
 obtain⟨_,t,l⟩:i0<s.1.length/\m=(s.1.getD i0 (0,[])).2.length/\dT 2 (s.1.getD i0 (0,[])).2.length (dx.fn (s.1.getD i0 (0,[])).2) xs:=by
  grind
 subst t;clear o;generalize s.1.getD i0 (0,[])=p at *;refine aE a [(12,ae)] 100 rfl (by simp[ag]) (AK.leaveD rfl rfl ?_)
 refine aE a [] 100 rfl av ?_;refine AK.bJ 6 (λi=>i<=s.2.1.length) (λi:Nat=>[(1,.e (.one (.ptr 0 0))),(2,.e (.one (.ptr 1 0))),(3,.e (.one (.ptr 2 0))),(24,cr.sl s.2.1),(25,dI s.2.1.length),(26,dI i)])
  (λi=>[.cells 27 [.c (.sl ae 2 s.1.length (cP.fn s.1)),.c (.sl ae 2 s.2.1.length (cr.fn s.2.1)),.c (.sl ae 2 s.2.2.length (cH.fn s.2.2))],.cells 27 [dm,dm,dm],.cells 27 [.bp 3 (.sl s.1.length 2 0 s.1.length),.bp 4 (.sl i 2 0 i),dm],.buf 55 2 s.1.length (iZ s.1 i0 (lu bf p.2.length)),.buf 59 2 i (cr.fn (s.2.1.take i)),.dz (ia 88 2 bf p.2.length xs)]) (λi=>s.2.1.length-i) 0 rfl ?_ rfl ?_ rfl (by omega) ?_
 .simp[ag.cat,ag,aR.same]
 .simp[ag.cat,ag,aR.same,aR]
 intro i hi
 by_cases h:i<s.2.1.length
 .have g:s.2.1.getD i (0,[])∈s.2.1:=by grind
  have b:s.2.1.getD (i:Int).toNat cr.bC=s.2.1.getD i (0,[]):=by rw[bt];rfl
  refine aE a [(27,ab)] 100 rfl ?_ (AK.aQ (i+1) rfl ?_ ?_ ?_ ?_)
  .have q:=r _ g;simp only[ag,b,cL.list_fn,bx];exact⟨by omega,av,av,show (i+1)*32<=_ by omega,cL.aH _,q.1,q.2,by omega,by omega,ck (by omega)⟩
  .simp[ag.cat,ag,aR.same]
  .have e:=cr.gH s.2.1 h (0,[]);simp only[ag.cat,ag,b,cL.list_fn,aF,aG];exact⟨⟨aR.same,aR.same,aR.same⟩,⟨aR.same,aR.same,aR.same⟩,⟨rfl,aR.same⟩,aR.same,e⟩
  .show i+1<=_;omega
  .omega
 obtain rfl:i=s.2.1.length:=by omega
 rw[bY];refine aE a [(27,ae)] 100 rfl (by simp[ag]) (AK.leaveD rfl rfl ?_)
 refine aE a [] 100 rfl av ?_;refine AK.cQ (wI s.2.2 y) [] rfl ?_;refine aE a [] 100 rfl av ?_;refine AK.dk ⟨(bf,xs),l⟩ [3,4,5] rfl rfl rfl rfl rfl rfl rfl rfl ?_ rfl rfl rfl rfl (λj z=>absurd z (by simp))
 .simp[ag.cat,ag,aR.same]
abbrev YF(s:a9)(l:c6)(i0:Nat)(b cap n0:Nat)(a:List ak):List aW:=Tc s l [.buf 55 2 s.1.length (iZ s.1 i0 (.slice (aa ⟨b,0,af⟩) n0 cap)),.buf 59 2 s.2.1.length (cr.fn s.2.1),.dz (ia 88 2 (.row b cap) n0 a)] (aB 3 s.1.length s.1.length) (aB 4 s.2.1.length s.2.1.length) (.c (Dj s.2.2))
def dy(xs:List cz)(m:Nat)(t:Bs):List cz:=xs.set m ((xs.getD m (0,[])).1,t)
def sj{xs:List cz}{m:Nat}{t:Bs}{d vs:List ak}(h:dT 2 xs.length (dx.fn xs) d)(f:m<xs.length)(i:mT vs [.c (.str t)]):dT 2 xs.length (dx.fn (dy xs m t)) (d.take (m*2+1)++vs++d.drop (m*2+1+vs.length)):=by
 refine dT.eR h m 1 f i (by simp) (λj g b=>?_) rfl λq c a=>?_
 .simp[hZ.fn,sH,dy,ai,uS,mi b]
 .have e:dx.fn (dy xs m t) m=[.int .i64 (xs.getD m (0,[])).1,.str t]:=by
   simp[hZ.fn,sH,dy,ai,uS,f];rfl
  rw[e] at a;rcases q with _|_|q
  .simp at a;subst a;exact .inr ⟨by omega,rfl⟩
  .grind
  .simp at a
def Ln(s:a9)(l:c6)(C:s.1.length<=4000000)(i0 b cap m:Nat)(xs:List cz)(y:(s.1.getD i0 (0,[])).2=xs)(k:i0<s.1.length)(n:(s.1.getD i0 (0,[])).1=l.2.1)(o:∀ j,j<s.1.length->j≠i0->(s.1.getD j (0,[])).1≠l.2.1)(D:l.2.2.1=m)(r:m<xs.length)(B:xs.length<=4000000)(g:List ak)(v:dT 2 xs.length (dx.fn xs) g) :
  cD (ι:={ q:List ak // dT 2 xs.length (dx.fn (dy xs m l.2.2.2)) q }) X 54 [.e (.one (.ptr 6 0)),Aj (tg l)] (YF s l i0 b cap xs.length g) (λ_=>.eN []) (λq=>YF s l i0 b cap xs.length q.1):=by
 refine cD.n7 Tryz.func54 rfl rfl rfl (AK.of_code ?_);refine bm rfl av ?_;refine AK.bJ 7 (λx:Nat×List ak=>x.1<=s.1.length/\(x.1<=i0->x.2=g)/\(i0<x.1->dT 2 xs.length (dx.fn (dy xs m l.2.2.2)) x.2)) (λx=>[(0,.e (.one (.ptr 6 0))),(1,Aj (tg l)),(8,.e (.one (aB 3 s.1.length s.1.length))),(9,dI s.1.length),(10,dI x.1)]) (λx=>YF s l i0 b cap xs.length x.2) (λx=>s.1.length-x.1) (0,g) rfl ?_ rfl ?_ rfl ⟨by omega,λ_=>rfl,λh=>by omega⟩ ?_
 .simp[ag.cat,ag,aR.same]
 .simp[ag.cat,ag,aR.same]
 rintro⟨i,a⟩ ⟨hi,d,f⟩;simp only at hi d f;have u:0+(i:Int).toNat=i:=by omega
 by_cases h:i<s.1.length
 .by_cases t:i=i0
  .subst t;obtain rfl:=d (bc _);refine aX [(11,ab)] 12 rfl ?_ ?_
   .simp only[ag,bd,aG,aF];and_intros <;> omega
   refine AK.law (bF.Bx tok (e:=.agg [.c (.int .i64 l.2.1),.c (.val (.slice (aa ⟨b,0,af⟩) xs.length cap))]) rfl rfl rfl rfl rfl ?_ ?_) rfl rfl ?_
   .show aa (E1.agg [.c (.int .i64 (s.1.getD (0+(i:Int).toNat) (0,[])).1),.c (Dk s.1 i (.slice (aa ⟨b,0,af⟩) xs.length cap) (0+(i:Int).toNat))])=_;rw[u,n,Dk,bg rfl]
   .show 0+(i:Int).toNat<_;omega
   refine aX [(19,ab),(24,ab),(31,ab)] 100 rfl ?_ ?_
   .simp only[ag,bx,bd,ef,aG,aF];and_intros <;> omega
   have A:=v.len;have w:0+l.2.2.1.toNat*2+1=m*2+1:=by omega
   refine AK.DC tok 5 rfl rfl rfl rfl rfl rfl rfl ?_ rfl rfl λvs I9=>?_
   .show 0+l.2.2.1.toNat*2+1+1<=a.length;omega
   have z:=sj v r I9;refine bm rfl ?_ (AK.aQ (i+1,a.take (m*2+1)++vs++a.drop (m*2+1+vs.length)) rfl ?_ ?_ ?_ ?_)
   .simp only[ag,bx,aF];omega
   .simp[ag.cat,ag,aR.same]
   .simp only[ag.cat,ag,aR.same,aF,aG];show ia 88 2 _ _ (List.take (0+l.2.2.1.toNat*2+1) a++vs++List.drop (0+l.2.2.1.toNat*2+1+vs.length) a)=_;rw[w]
   .grind
   grind
  .have p:=o i h t;refine aX [(11,ab)] 12 rfl ?_ ?_
   .simp only[ag,bd,aG,aF];and_intros <;> omega
   refine AK.law (bF.Bx tok (e:=.agg [.c (.int .i64 (s.1.getD i (0,[])).1),.c (.sl ae 2 (s.1.getD i (0,[])).2.length (dx.fn (s.1.getD i (0,[])).2))]) rfl rfl rfl rfl rfl ?_ ?_) rfl rfl ?_
   .show aa (E1.agg [.c (.int .i64 (s.1.getD (0+(i:Int).toNat) (0,[])).1),.c (Dk s.1 i0 (.slice (aa ⟨b,0,af⟩) xs.length cap) (0+(i:Int).toNat))])=_;rw[u,Dk,aY t]
   .show 0+(i:Int).toNat<_;omega
   refine aX [(19,ae),(24,ae),(31,ae)] 100 rfl ?_ (AK.aQ (i+1,a) rfl ?_ ?_ ?_ ?_)
   .simp only[ag,bx,dv,aG,aF];exact⟨by omega,p⟩
   .simp[ag.cat,ag,aR.same]
   .simp[ag.cat,ag,aR.same]
   .grind
   grind
 obtain rfl:i=s.1.length:=by omega
 refine aX [(11,ae)] 100 rfl (by simp[ag]) (AK.leaveD rfl rfl ?_)
 refine bm rfl av ?_;exact⟨⟨a,f k⟩,.inr rfl,rfl,rfl,_,_,_,rfl,rfl,rfl,av⟩
structure Td (s:a9)(l:c6)(i0 m:Nat):Prop where
 i:i0<s.1.length
 no:(s.1.getD i0 (0,[])).1=l.2.1
 ne:∀ j,j<s.1.length->j≠i0->(s.1.getD j (0,[])).1≠l.2.1
 at':l.2.2.1=m
 ml:m<(s.1.getD i0 (0,[])).2.length
def tX(xs:List cz)(m:Nat)(t:Bs):(dy xs m t).length=xs.length:=by simp[dy]
def nz{s:a9}{i0:Nat}(h:i0<s.1.length):s.1.getD i0 (0,[])∈s.1:=by grind
set_option maxRecDepth 20000 in
def AA(s:a9)(l:c6)(d:dL s)(h:l.1=3)(i0 m:Nat)(a:Td s l i0 m) :
  cD (ι:={ q:qQ×List ak // dT 2 (s.1.getD i0 (0,[])).2.length (dx.fn (dy (s.1.getD i0 (0,[])).2 m l.2.2.2)) q.2 }) X 12 [ey s,gb l] []
   (λ_=>.e (.agg [aB 0 s.1.length s.1.length,aB 1 s.2.1.length s.2.1.length,.c (Dj s.2.2)]))
   (λq=>[.buf 55 2 s.1.length (iZ s.1 i0 (lu q.1.1 (s.1.getD i0 (0,[])).2.length)),.buf 59 2 s.2.1.length (cr.fn s.2.1),.dz (ia 88 2 q.1.1 (s.1.getD i0 (0,[])).2.length q.1.2)]):=by
 have g:=a.ml;have j:=d.p2 _ (nz a.i);refine cD.gy tok Tryz.func12 rfl rfl rfl λt=>?_
 refine bm rfl av ?_;refine AK.cP (wU s i0 a.i (by omega) d.p d.p2 d.sn d.s2 d.h) [] rfl (λ_=>rfl) ?_
 rintro⟨⟨bf,r⟩,k⟩;refine AK.Jc (ia.len (l:=5) rfl) λf=>?_
 obtain⟨b,cap,rfl⟩:=f.2.2.1 (by omega)
 refine bm rfl av ?_;refine AK.cQ (wL l h) [] rfl ?_;refine bm rfl av ?_;refine AK.nO (Ln s l d.p i0 b cap m _ rfl a.i a.no a.ne a.at' g j r k) rfl rfl rfl rfl ?_ rfl ?_
 .simp[ag,ag.cat,aR.same]
 rintro⟨n,o⟩;refine bm rfl av ?_;refine AK.dk ⟨(.row b cap,n),o⟩ [3,4,5] rfl rfl rfl rfl rfl rfl rfl rfl ?_ rfl rfl rfl rfl iY;simp[ag.cat,ag,aR.same]
abbrev gL(s:a9)(l:c6)(i0 m:Nat):a9:=(s.1.set i0 ((s.1.getD i0 (0,[])).1,dy (s.1.getD i0 (0,[])).2 m l.2.2.2),s.2.1,s.2.2)
def HK{f:aV}{args:List D}(s:a9)(l:c6)(i0 m:Nat)(hi:i0<s.1.length)
  (a:cD (ι:={ q:qQ×List ak // dT 2 (s.1.getD i0 (0,[])).2.length (dx.fn (dy (s.1.getD i0 (0,[])).2 m l.2.2.2)) q.2 }) X f args []
   (λ_=>.e (.agg [aB 0 s.1.length s.1.length,aB 1 s.2.1.length s.2.1.length,.c (Dj s.2.2)]))
   (λq=>[.buf 55 2 s.1.length (iZ s.1 i0 (lu q.1.1 (s.1.getD i0 (0,[])).2.length)),.buf 59 2 s.2.1.length (cr.fn s.2.1),.dz (ia 88 2 q.1.1 (s.1.getD i0 (0,[])).2.length q.1.2)])) :
  Ev X f args [] (ey (gL s l i0 m)) []:=by
 generalize v:s.1.getD i0 (0,[])=p at *;have o:∀ j,j≠i0->cP.fn (gL s l i0 m).1 j=cP.fn s.1 j:=λj g=>by
  simp[hZ.fn,sH,ai,uS,mi g]
 have i:cP.fn (gL s l i0 m).1 i0=[.int .i64 p.1,.sl ae 2 p.2.length (dx.fn (dy p.2 m l.2.2.2))]:=by
  have:(gL s l i0 m).1.getD i0 cP.bC=(p.1,dy p.2 m l.2.2.2):=by
   grind
  show cP.enc ((gL s l i0 m).1.getD i0 cP.bC)=_;rw[this];show [C.int .i64 p.1,C.sl ae 2 (dy p.2 m l.2.2.2).length (dx.fn (dy p.2 m l.2.2.2))]=_;rw[tX]
 have t:=cD.zL (σ1:=λq:{ q:qQ×List ak // dT 2 p.2.length (dx.fn (dy p.2 m l.2.2.2)) q.2 }=>[.buf 55 2 s.1.length (iZ s.1 i0 (lu q.1.1 p.2.length)),.buf 59 2 s.2.1.length (cr.fn s.2.1)]) (σ2:=λ_=>[.buf 55 2 s.1.length (cP.fn (gL s l i0 m).1),.buf 59 2 s.2.1.length (cr.fn s.2.1)]) (E:=88) (k:=2) (n:=p.2.length) (bf:=λq=>q.1.1) (xs:=λq=>q.1.2) a (λq=>q.2) 0 (λ_=>rfl) (λ_=>rfl) (λ_=>rfl) (λ_=>rfl) (λ_=>gh _)
  (λq j g=>by
   by_cases h:j=i0
   .subst h;rw[i];rfl
   .rw[o j h];rfl)
  (λq j g r u d=>by
   by_cases h:j=i0
   .subst h;rw[i] at d;have:iZ s.1 j (lu q.1.1 p.2.length) j=[.int .i64 p.1,.val (lu q.1.1 p.2.length)]:=by simp only[iZ,Dk,cj,v]
    rw[this];rcases r with _|_|r
    .simp at d;subst d;exact⟨_,rfl,.inl rfl⟩
    .simp at d;subst d;exact⟨_,rfl,.inr ⟨rfl,rfl⟩⟩
    .simp at d
   .rw[o j h] at d;have:iZ s.1 i0 (lu q.1.1 p.2.length) j=cP.fn s.1 j:=by simp only[iZ,Dk,aY h];rfl
    rw[this];exact⟨u,d,.inl rfl⟩)
 have b:=cD.iW (σ1:=λ_=>[.buf 55 2 s.1.length (cP.fn (gL s l i0 m).1)]) (E:=59) (k:=2) (n:=λ_=>s.2.1.length) (es:=λ_=>cr.fn s.2.1) t (λ_=>rfl) (λ_=>?_) (λ_=>rfl) (λ_=>gh _)
 have c:=cD.iW (σ1:=λ_=>[]) (E:=55) (k:=2) (n:=λ_=>s.1.length) (es:=λ_=>cP.fn (gL s l i0 m).1) b (λ_=>rfl) (λ_=>?_) (λ_=>rfl) (λ_=>bc _)
 refine(c.le (res':=λ_=>ey (gL s l i0 m)) (λ_=>rfl) (λ_=>?_)).one
 .simp only[ag.cat,ag,aF,aG,pE];exact⟨aR.same,aR.same,aR.same⟩
 .simp[ag.cat,ag]
 .simp[ag.cat,ag]
set_option maxRecDepth 20000 in
def Cq(s:a9)(l:c6)(b:dL s)(h:l.1=3)(i0 m:Nat)(a:Td s l i0 m):Ev X 12 [ey s,gb l] [] (ey (gL s l i0 m)) [] :=
 HK s l i0 m a.i (AA s l b h i0 m a)
abbrev Oq(s:a9)(i:Nat)(es:Nat->List C)(j:Nat)(q:List cN)(bf:qQ)(m:Nat)(xs:List ak):List aW:=[IQ s,.cells 27 [dm,dm,dm],.buf 55 2 i es,.buf 59 2 j (cr.fn q),.buf 86 2 s.2.2.length (cH.fn s.2.2),.cells 27 [.bp 2 (.sl i 2 0 i),.bp 3 (.sl j 2 0 j),.bp 4 (.sl s.2.2.length 2 0 s.2.2.length)],.dz (ia 88 2 bf m xs)]
def EI(s:a9)(i0:Nat)(A:i0<s.1.length)(b:0<(s.1.getD i0 (0,[])).2.length)(B:s.1.length<=4000000)(v:∀ p∈s.1,p.2.length<=4000000)(H:s.2.1.length<=4000000)(t:jQ s)(E:s.2.2.length<=4000000) :
  cD (ι:=Own (s.1.getD i0 (0,[])).2) X 41 [ey s] [] (λ_=>.e (.agg [.bp 0 (.sl s.1.length 2 0 s.1.length),.bp 1 (.sl s.2.1.length 2 0 s.2.1.length),.bp 2 (.sl s.2.2.length 2 0 s.2.2.length)]))
   (λq=>[.buf 55 2 s.1.length (iZ s.1 i0 (lu q.1.1 (s.1.getD i0 (0,[])).2.length)),.buf 59 2 s.2.1.length (cr.fn s.2.1),.buf 86 2 s.2.2.length (cH.fn s.2.2),HI (s.1.getD i0 (0,[])).2 q]):=by
 refine cD.gy tok Tryz.func41 rfl rfl rfl λC=>?_
 refine aX [(1000001,ab)] 200 rfl av ?_;refine AK.region ?_;refine aX [] 5 rfl av ?_;refine AK.we 9 55 2 (cP.fn []) rfl ?_;refine AK.we 10 59 2 (cr.fn []) rfl ?_;refine AK.we 11 86 2 (cH.fn []) rfl ?_;refine aX [(1000002,ab)] 200 rfl ?_ ?_
 .simp only[ag,show i86.bytes=16 from rfl,aG,aF];and_intros <;> omega
 refine AK.spare 88 2 ?_;refine dE rfl av ?_;refine AK.bJ 7 (I3 s.1 i0) (λx:S3=>[(1,.e (.one (.ptr 0 0))),(2,.e (.one (.ptr 1 0))),(3,.e (.one (.ptr 5 0))),(4,dI x.1)]) (λx=>Oq s x.1 (iZ s.1 i0 (u3 x)) 0 [] x.2.1 x.2.2.1 x.2.2.2) (λx=>s.1.length-x.1) (0,.nil af,0,[]) rfl ?_ rfl ?_ rfl ⟨by omega,.inl ⟨by omega,rfl⟩⟩ ?_
 .simp[ag.cat,ag]
 .simp[ag.cat,ag,aR,gn];rfl
 rintro⟨i,bf,m,xs⟩ ⟨hi,o⟩;simp only at hi o
 by_cases h:i<s.1.length
 .have l:s.1.getD i (0,[])∈s.1:=by grind
  have a:s.1.getD (i:Int).toNat cP.bC=s.1.getD i (0,[]):=by rw[bt];rfl
  have q:=v _ l
  by_cases g:i=i0
  .subst g;have w:m=0:=by rcases o with⟨_,G⟩|⟨F,_⟩ <;> omega
   rw[<-a] at b q;refine aX [(20,ab),(1000005,ab)] 100 rfl ?_ ?_
   .simp only[ag,bx,bd,aG,aF];omega
   refine AK.NB (ι:=Own (s.1.getD (i:Int).toNat cP.bC).2) en 15 18 8 (λk=>bq k 14)
    (λk=>[.e (.one (.ptr 5 0)),.e (.one (.bp 2 (.sl i 2 0 i))),.e (.one (.ptr 0 0)),cP.sl s.1,dI i,Aj [.int .i64 (s.1.getD (i:Int).toNat cP.bC).1,sP (s.1.getD (i:Int).toNat cP.bC)],Aj [.int .i64 (s.1.getD (i:Int).toNat cP.bC).1,sP (s.1.getD (i:Int).toNat cP.bC)],dI (s.1.getD (i:Int).toNat cP.bC).1,
     .e (.one (.c (.sl ab 2 0 (λj=>[].getD j [])))),.e (.one (.ptr 0 0)),cP.sl s.1,dI i,Aj [.int .i64 (s.1.getD (i:Int).toNat cP.bC).1,sP (s.1.getD (i:Int).toNat cP.bC)],Aj [sP (s.1.getD (i:Int).toNat cP.bC)],.e (.one (.c (sP (s.1.getD (i:Int).toNat cP.bC))))].getD k .any)
    (λq k=>[.e (.one (.c (EH _ q))),.e (.agg [.c (.int .i64 (s.1.getD (i:Int).toNat cP.bC).1),.c (EH _ q)]),.e (.one (.c (.sl ab 2 1 (λj=>[[.int .i64 (s.1.getD (i:Int).toNat cP.bC).1,EH _ q]].getD j []))))].getD (k-15) .any)
    (λq=>Oq s i (iZ s.1 i (lu bf m)) 0 [] bf m xs++[HI _ q])
    rfl rfl rfl rfl rfl rfl rfl (λk h=>by have:=c7 h;omega) rfl
    ⟨OA.cd tok bD.nil rfl,OA.cd tok bD.nil rfl,OA.cd tok bD.nil rfl,OA.cd tok bD.nil rfl,OA.cd tok bD.nil rfl,OA.eval (ds:=[]) tok bD.nil rfl ?_,OA.cd tok bD.nil rfl,OA.cd tok bD.nil rfl,OA.cd tok bD.nil rfl,OA.cd tok bD.nil rfl,OA.cd tok bD.nil rfl,OA.cd tok bD.nil rfl,OA.eval (ds:=[]) tok bD.nil rfl ?_,OA.cd tok bD.nil rfl,OA.cd tok bD.nil rfl,av,av,av,av,av,av,av⟩
    (λq=>⟨OA.cd tok bD.nil rfl,OA.cd tok bD.nil rfl,OA.cd tok bD.nil rfl,OA.cd tok bD.nil rfl,OA.cd tok bD.nil rfl,OA.eval (ds:=[]) tok bD.nil rfl ?_,OA.cd tok bD.nil rfl,OA.cd tok bD.nil rfl,OA.cd tok bD.nil rfl,OA.cd tok bD.nil rfl,OA.cd tok bD.nil rfl,OA.cd tok bD.nil rfl,OA.eval (ds:=[]) tok bD.nil rfl ?_,OA.cd tok bD.nil rfl,OA.cd tok bD.nil rfl,av,OA.cd tok bD.nil rfl,OA.cd tok bD.nil rfl,av⟩)
    (rU.QL rfl (BG.fresh (PU rfl) rfl rfl rfl b (by show _*24<=_;omega) (Gc _ _))) ?_
   .simp only[ag,aF];omega
   .simp only[ag,aF];omega
   .simp only[ag,aF];omega
   .simp only[ag,aF];omega
   rw[a];rw[a] at b q;generalize f:s.1.getD i (0,[])=p at *;intro r;refine aX [(1000004,ab)] 100 rfl ?_ ?_
   .simp only[ag,show i55.bytes=32 from rfl,aG,aF];and_intros <;> omega
   refine AK.swap 6 7 (by decide) rfl rfl (λ_ _ h=>h.1) (λ_ _ h=>h.1) ?_
   refine bm rfl ?_ (AK.aQ (i+1,r.1.1,p.2.length,r.1.2) rfl ?_ ?_ ?_ ?_)
   .simp only[ag,bx,aF];omega
   .simp[ag.cat,ag,aR.same]
   .have e:=wT (ps:=s.1) (i0:=i) (u:=lu r.1.1 p.2.length) (u':=lu bf m);rw[f] at e;simp only[ag.cat,ag,aF,aG]
    and_intros <;> first|exactλ_ _=>rfl|exact e|rfl
   .refine⟨by show i+1<=_;omega,.inr ⟨by show i<i+1;omega,?_⟩⟩
    rw[f];exact⟨rfl,r.2⟩
   grind
  .refine aX [(20,ab),(2000038,ab)] 200 rfl ?_ (AK.aQ (i+1,bf,m,xs) rfl ?_ ?_ ?_ ?_)
   .simp only[ag,a,bx,show i55.bytes=32 from rfl,show i88.bytes=24 from rfl,bd,gd,aG,aF];and_intros <;> omega
   .simp[ag.cat,ag]
   .have e:=yM (ps:=s.1) (u:=lu bf m) g;simp only[ag.cat,ag,a,gn,br,aF,aG]
    and_intros <;> first|exactλ_ _=>rfl|exact e|rfl
   .refine⟨by show i+1<=_;omega,?_⟩
    grind
   grind
 obtain rfl:i=s.1.length:=by omega
 obtain⟨_,w,n⟩:i0<s.1.length/\m=(s.1.getD i0 (0,[])).2.length/\dT 2 (s.1.getD i0 (0,[])).2.length (dx.fn (s.1.getD i0 (0,[])).2) xs:=by
  grind
 subst w;clear o;generalize s.1.getD i0 (0,[])=pp at *;refine aX [(20,ae)] 200 rfl (by simp[ag]) (AK.leaveD rfl rfl ?_)
 refine dE rfl av ?_;refine AK.bJ 7 (λi=>i<=s.2.1.length) (λi:Nat=>[(1,.e (.one (.ptr 0 0))),(2,.e (.one (.ptr 1 0))),(3,.e (.one (.ptr 5 0))),(5,dI i)]) (λi=>Oq s s.1.length (iZ s.1 i0 (lu bf pp.2.length)) i (s.2.1.take i) bf pp.2.length xs) (λi=>s.2.1.length-i) 0 rfl ?_ rfl ?_ rfl (by omega) ?_
 .simp[ag.cat,ag]
 .simp[ag.cat,ag,aR.same,aR]
 intro i hi
 by_cases h:i<s.2.1.length
 .have l:s.2.1.getD i (0,[])∈s.2.1:=by grind
  have a:s.2.1.getD (i:Int).toNat cr.bC=s.2.1.getD i (0,[]):=by rw[bt];rfl
  have q:=t _ l;have e:=cr.gH s.2.1 h (0,[]);generalize s.2.1.getD i (0,[])=x at *;refine aX [(47,ab),(1000010,ab)] 200 rfl ?_ ?_
  .simp only[ag,a,bd,gd,aG,aF];and_intros <;> omega
  rw[a];refine AK.gi 7 1 90 2 (cL.fn []) rfl rfl ?_;refine dE rfl av ?_;refine AK.bJ 9 (λj=>j<=x.2.length) (λj:Nat=>[(1,.e (.one (.ptr 0 0))),(2,.e (.one (.ptr 1 0))),(3,.e (.one (.ptr 5 0))),(5,dI i),(6,.e (.one (.ptr 7 0))),(7,dI j)]) (λj=>Oq s s.1.length (iZ s.1 i0 (lu bf pp.2.length)) i (s.2.1.take i) bf pp.2.length xs++[.cells 59 [.c (.int .i64 x.1),.vec 8 2 j (cL.fn (x.2.take j))],.vec 90 2 j (cL.fn (x.2.take j))]) (λj=>x.2.length-j) 0 rfl ?_ rfl ?_ rfl (by omega) ?_
  .simp[ag.cat,ag]
  .simp[ag.cat,ag,aR.same,aR]
  intro j y
  by_cases g:j<x.2.length
  .have d:x.2.getD (j:Int).toNat cL.bC=x.2.getD j ([],[]):=by rw[bt];rfl
   have D:=q.2 (x.2.getD j ([],[])) (by grind)
   have z:=cL.gH x.2 g ([],[]);refine aX [(66,ab),(2000085,ab)] 200 rfl ?_ (AK.aQ (j+1) rfl ?_ ?_ ?_ ?_)
   .simp only[ag,a,d,bx,show i90.bytes=40 from rfl,show i3.bytes=8 from rfl,bd,gd,aG,aF];and_intros <;> omega
   .simp[ag.cat,ag]
   .simp only[ag.cat,ag,a,d,gn,br,aF,aG]
    and_intros <;> first|exactλ_ _=>rfl|exact z|rfl
   .show j+1<=_;omega
   .omega
  obtain rfl:j=x.2.length:=by omega
  rw[bY];refine aX [(66,ae)] 200 rfl ?_ (AK.leaveD rfl rfl ?_)
  .simp only[ag,a,bR];and_intros <;> omega
  refine dE rfl ?_ (AK.aQ (i+1) rfl ?_ ?_ ?_ ?_)
  .simp only[ag,a,bx,show i59.bytes=32 from rfl,aG,aF];and_intros <;> omega
  .simp[ag.cat,ag]
  .simp only[ag.cat,ag,aF,aG]
   and_intros <;> first|exactλ_ _=>rfl|exact e|rfl
  .show i+1<=_;omega
  .omega
 obtain rfl:i=s.2.1.length:=by omega
 rw[bY];refine aX [(47,ae)] 200 rfl (by simp[ag]) (AK.leaveD rfl rfl ?_)
 refine dE rfl av ?_;refine AK.dk ⟨(bf,xs),n⟩ [2,3,4,6] rfl rfl rfl rfl rfl rfl rfl rfl ?_ rfl rfl rfl rfl (λj y=>absurd y (by simp))
 .simp[ag.cat,ag,aR.same]
def EB(s:a9) (n:Int)(c:s.2.2.length<=4000000)(h:n<0∨n>s.2.2.length):Ev X 42 [ey s,dI n] [] (ey s) []:=by
 refine Ev.iV tok Tryz.func42 rfl rfl rfl λd=>?_
 have a:bD X [(18,pn)]:=.cons qf .nil;refine aE a [(15,ab)] 200 rfl (by simp[ag];omega) ?_
 refine AK.dk () [] rfl rfl rfl rfl rfl rfl rfl rfl ?_ rfl rfl rfl rfl (λj b=>absurd b (by simp))
 simp[ag.cat,ag,aR.same]
abbrev oy(n:Nat)(s:a9)(q:List cN):List cN:=q.filter λx=>!gU n s.2.2 x
abbrev yE(n:Nat)(s:a9)(j:Nat)(x:cN):Bool:=((s.2.2.drop n).take j).any λh=>h.2==x.1
abbrev bkB(s:a9)(n:Nat)(ks:List cN):List aW:=[.cells 27 [.c (sPs s.1),.c (sSs s.2.1),.c (Dj (s.2.2.take n))],.cells 27 [dm,dm,dm],.vec 59 2 ks.length (cr.fn ks)]
def tU{α:Type}(p:α->Bool){l:List α}{i:Nat}(h:i<l.length)(d:α):(l.take (i+1)).filter p=(l.take i).filter p++(if p (l.getD i d) then [l.getD i d] else []):=by
 rw[bu h d,oP]
 grind
def Le{α:Type}(p:α->Bool){l:List α}{i:Nat}(h:i<l.length)(d:α):(l.take (i+1)).any p=((l.take i).any p||p (l.getD i d)):=by
 rw[bu h d,List.any_append];simp
def EC(s:a9)(n:Nat)(y:n<=s.2.2.length)(w:s.2.1.length<=4000000)(m:∀ x∈s.2.1,-4000000<=x.1/\x.1<=4000000)(z:s.2.2.length<=4000000):Ev X 42 [ey s,dI n] [] (ey (s.1,oy n s s.2.1,s.2.2.take n)) []:=by
 refine Ev.iV tok Tryz.func42 rfl rfl rfl λv=>?_
 have a:bD X [(18,pn)]:=.cons qf .nil;refine aE a [(15,ae),(1000006,ab)] 100 rfl ?_ ?_
 .simp[ag,iN];omega
 refine AK.ix 6 59 2 rfl rfl ?_;refine aE a [] 100 rfl av ?_;refine AK.bJ 3 (λi=>i<=s.2.1.length) (λi:Nat=>[(2,.e (.one (.ptr 0 0))),(4,.e (.one (.ptr 1 0))),(5,cH.sl (s.2.2.drop n)),(6,.e (.one (.vec 2 2 (oy n s (s.2.1.take i)).length (cr.fn (oy n s (s.2.1.take i)))))),(7,dI i)]) (λi=>bkB s n (oy n s (s.2.1.take i))) (λi=>s.2.1.length-i) 0 rfl ?_ rfl ?_ rfl (by omega) ?_
 .have e:=cH.F6 s.2.2 n (s.2.2.length-n);simp[ag.cat,ag,aR.same,aR.nil,cn];exact e
 .simp[ag.cat,ag,aR.same,aR.nil,cn];exact⟨by omega,λi hi=>by
   have k:i<n:=hi;simp[jJ,cn,hZ.fn,sH,ai,gQ,k]⟩
 intro i hi
 by_cases h:i<s.2.1.length
 .have p:s.2.1.getD i (0,[])∈s.2.1:=by grind
  have d:s.2.1.getD (i:Int).toNat cr.bC=s.2.1.getD i (0,[]):=by rw[bt];rfl
  have q:=m _ p;have e:=cr.gH s.2.1 h (0,[]);have f:oy n s (s.2.1.take (i+1))=oy n s (s.2.1.take i)++(if !gU n s.2.2 (s.2.1.getD i (0,[])) then [s.2.1.getD i (0,[])] else []):=tU (λx=>!gU n s.2.2 x) h (0,[])
  have u:(oy n s (s.2.1.take i)).length<=i:=ez (j1 _ _) (by simp;omega)
  generalize oy n s (s.2.1.take i)=ks at *;generalize s.2.1.getD i (0,[])=x at *;refine aE a [(31,ab)] 200 rfl ?_ ?_
  .simp only[ag,d,bd,gd,aG,aF];and_intros <;> omega
  refine AK.bJ 3 (λj=>j<=(s.2.2.drop n).length) (λj:Nat=>[(2,.e (.one (.ptr 0 0))),(4,.e (.one (.ptr 1 0))),(5,cH.sl (s.2.2.drop n)),(6,.e (.one (.vec 2 2 ks.length (cr.fn ks)))),(7,dI i),(8,dB (yE n s j x)),(9,dI j)]) (λj=>bkB s n ks) (λj=>(s.2.2.drop n).length-j) 0 rfl ?_ rfl ?_ rfl (by omega) ?_
  .simp[ag.cat,ag,aR.same]
  .simp[ag.cat,ag,aR.same]
  intro j o;have r:=mO (i:=n) (l:=s.2.2)
  by_cases t:j<(s.2.2.drop n).length
  .have b:(s.2.2.drop n).getD (j:Int).toNat cH.bC=(s.2.2.drop n).getD j (0,0):=by rw[bt];rfl
   have c:yE n s (j+1) x=(yE n s j x||((s.2.2.drop n).getD j (0,0)).2==x.1):=Le (λh:Int×Int=>h.2==x.1) t (0,0)
   cases g:yE n s j x with
   |true =>
    refine aE a [(37,ab)] 200 rfl ?_ (AK.aQ (j+1) rfl ?_ ?_ ?_ ?_)
    .simp only[ag,d,b,bd,gd,aG,aF];and_intros <;> omega
    .rw[g] at c;simp[ag.cat,ag,aR.same,c]
    .simp[ag.cat,ag,aR.same]
    .show j+1<=_;omega
    .omega
   |false =>
    refine aE a [(37,ab)] 200 rfl ?_ (AK.aQ (j+1) rfl ?_ ?_ ?_ ?_)
    .simp only[ag,d,b,bd,gd,aG,aF];and_intros <;> omega
    .rw[g] at c;simp only[ag.cat,ag,aR.same,c,d,b,aG,aF,Bool.false_or];rfl
    .simp[ag.cat,ag,aR.same]
    .show j+1<=_;omega
    .omega
  obtain rfl:j=(s.2.2.drop n).length:=by omega
  have c:yE n s (s.2.2.drop n).length x=gU n s.2.2 x:=by unfold yE gU;rw[bY]
  rw[c];cases g:gU n s.2.2 x with
  |true =>
   rw[g] at f;refine aE a [(37,ae)] 200 rfl ?_ (AK.leaveD rfl rfl ?_)
   .simp[ag]
   refine aE a [] 200 rfl ?_ (AK.aQ (i+1) rfl ?_ ?_ ?_ ?_)
   .simp only[ag,bx,aG,aF];omega
   .have:oy n s (s.2.1.take (i+1))=ks:=by simpa using f
    rw[this];simp only[ag.cat,ag,aR.same,aG,aF];rfl
   .rw[show oy n s (s.2.1.take (i+1))=ks by simpa using f]
    simp[ag.cat,ag,aR.same]
   .show i+1<=_;omega
   .omega
  |false =>
   rw[g] at f;refine aE a [(37,ae)] 200 rfl ?_ (AK.leaveD rfl rfl ?_)
   .simp[ag]
   refine aE a [] 200 rfl ?_ (AK.aQ (i+1) rfl ?_ ?_ ?_ ?_)
   .simp only[ag,bx,show i59.bytes=32 from rfl,aG,aF];and_intros <;> omega
   .rw[show oy n s (s.2.1.take (i+1))=ks++[x] by simpa using f]
    simp only[ag.cat,ag,d,aR.same,aG,aF,bG,eh];exact⟨cr.cm ks x,rfl⟩
   .rw[show oy n s (s.2.1.take (i+1))=ks++[x] by simpa using f]
    simp only[ag.cat,ag,d,aR.same,aG,aF,bG,eh];exact cr.cm ks x
   .show i+1<=_;omega
   .omega
 obtain rfl:i=s.2.1.length:=by omega
 rw[bY];refine aE a [(31,ae)] 200 rfl (by simp[ag]) (AK.leaveD rfl rfl ?_)
 refine aE a [] 200 rfl av ?_;refine AK.dk () [] rfl rfl rfl rfl rfl rfl rfl rfl ?_ rfl rfl rfl rfl (λj o=>absurd o (by simp))
 simp[ag.cat,ag,aR.same]
def HB(s:a9)(l:c6)(a:dL s)(c:l.1≠1)(e:l.1≠2)(f:l.1≠3)(b:l.1≠4):Ev X 23 [ey s,gb l] [] (ey s) []:=by
 refine Ev.iV tok Tryz.func23 rfl rfl rfl λg=>?_
 refine bm rfl av ?_;refine AK.cQ (fp s a.p a.p2 a.sn a.s2 a.h) [] rfl ?_;refine aX [(13,ae),(42,ae),(48,ae),(91,ae)] 100 rfl ?_ ?_
 .simp[ag,c,e,f,b]
 refine AK.dk () [] rfl rfl rfl rfl rfl rfl rfl rfl ?_ rfl rfl rfl rfl (λj d=>absurd d (by simp))
 simp[ag.cat,ag,aR.same]
def yF(s:a9)(l:c6)(s':a9)(a:dL s)(c:l.1=2)(b:Ev X 42 [ey s,dI l.2.1] [] (ey s') []):Ev X 23 [ey s,gb l] [] (ey s') []:=by
 refine Ev.iV tok Tryz.func23 rfl rfl rfl λe=>?_
 refine bm rfl av ?_;refine AK.cQ (fp s a.p a.p2 a.sn a.s2 a.h) [] rfl ?_;refine aX [(13,ae),(42,ab)] 100 rfl ?_ ?_
 .simp[ag,c]
 refine AK.mq b.A9 [] rfl rfl rfl rfl ?_ rfl rfl rfl (λ_=>rfl) rfl (λ_=>rfl) rfl ?_
 .simp[ag.cat,ag,aR.same]
 rintro -;refine bm rfl av ?_;refine AK.dk () [] rfl rfl rfl rfl rfl rfl rfl rfl ?_ rfl rfl rfl rfl (λj d=>absurd d (by simp))
 simp[ag.cat,ag,aR.same]
abbrev po(n:Int)(q:List bw):List bw:=q.filter λx=>!(x.1==n)
abbrev YA(s:a9)(l:c6)(ks:List bw):List aW:=[IQ s,.cells 32 (KP l),.cells 27 [dm,dm,dm],.vec 55 2 s.1.length (cP.fn s.1),.vec 59 2 s.2.1.length (cr.fn s.2.1),.vec 86 2 s.2.2.length (cH.fn s.2.2),
 .cells 27 [.vec 3 2 s.1.length (cP.fn s.1),.vec 4 2 s.2.1.length (cr.fn s.2.1),.vec 5 2 s.2.2.length (cH.fn s.2.2)],.vec 55 2 ks.length (cP.fn ks)]
def HC(s:a9)(l:c6)(a:dL s)(f:l.1=1):Ev X 23 [ey s,gb l] [] (ey (s.1.filter λx=>!(x.1==l.2.1),s.2.1,s.2.2)) []:=by
 refine Ev.iV tok Tryz.func23 rfl rfl rfl λn=>?_
 refine bm rfl av ?_;refine AK.cQ (fp s a.p a.p2 a.sn a.s2 a.h) [] rfl ?_;refine aX [(13,ab),(1000005,ab)] 100 rfl ?_ ?_
 .simp[ag,f]
 refine AK.ix 6 55 2 rfl rfl ?_;refine bm rfl av ?_;have m:=a.p;refine AK.bJ 8 (λi=>i<=s.1.length) (λi:Nat=>[(3,.e (.one (.ptr 1 0))),(4,.e (.one (.ptr 2 0))),(5,.e (.one (.ptr 6 0))),(6,.e (.one (.vec 7 2 (po l.2.1 (s.1.take i)).length (cP.fn (po l.2.1 (s.1.take i)))))),(7,dI i)]) (λi=>YA s l (po l.2.1 (s.1.take i))) (λi=>s.1.length-i) 0 rfl ?_ rfl ?_ rfl (by omega) ?_
 .simp[ag.cat,ag,aR.same,aR.nil]
 .simp[ag.cat,ag,aR.same,aR.nil]
 intro i hi
 by_cases h:i<s.1.length
 .have d:s.1.getD (i:Int).toNat cP.bC=s.1.getD i (0,[]):=by rw[bt];rfl
  have b:po l.2.1 (s.1.take (i+1))=po l.2.1 (s.1.take i)++(if !((s.1.getD i (0,[])).1==l.2.1) then [s.1.getD i (0,[])] else []):=tU (λx:bw=>!(x.1==l.2.1)) h (0,[])
  have k:(po l.2.1 (s.1.take i)).length<=i:=ez (j1 _ _) (by simp;omega)
  generalize po l.2.1 (s.1.take i)=ks at *;generalize s.1.getD i (0,[])=x at *;cases c:x.1==l.2.1 with
  |true =>
   rw[c] at b;refine aX [(20,ab),(31,ae)] 200 rfl ?_ (AK.aQ (i+1) rfl ?_ ?_ ?_ ?_)
   .simp only[ag,d,bx,bd,bR,gd,aG,aF]
    and_intros <;> first|omega|simp[bne,c]
   .rw[show po l.2.1 (s.1.take (i+1))=ks by simpa using b]
    simp only[ag.cat,ag,aR.same,aG,aF];rfl
   .rw[show po l.2.1 (s.1.take (i+1))=ks by simpa using b]
    simp[ag.cat,ag,aR.same]
   .show i+1<=_;omega
   .omega
  |false =>
   rw[c] at b;refine aX [(20,ab),(31,ab)] 200 rfl ?_ (AK.aQ (i+1) rfl ?_ ?_ ?_ ?_)
   .simp only[ag,d,bx,show i55.bytes=32 from rfl,bd,bR,gd,aG,aF]
    and_intros <;> first|omega|simp[bne,c]
   .rw[show po l.2.1 (s.1.take (i+1))=ks++[x] by simpa using b]
    simp only[ag.cat,ag,d,aR.same,aG,aF,bG,eh];exact⟨cP.cm ks x,rfl⟩
   .rw[show po l.2.1 (s.1.take (i+1))=ks++[x] by simpa using b]
    simp only[ag.cat,ag,d,aR.same,aG,aF,bG,eh];exact cP.cm ks x
   .show i+1<=_;omega
   .omega
 obtain rfl:i=s.1.length:=by omega
 rw[bY];refine aX [(20,ae)] 200 rfl (by simp[ag]) (AK.leaveD rfl rfl ?_)
 refine dE rfl av ?_;refine AK.dk () [] rfl rfl rfl rfl rfl rfl rfl rfl ?_ rfl rfl rfl rfl (λj g=>absurd g (by simp))
 simp[ag.cat,ag,aR.same]
def Lf{f:aV}{args:List D}(ps:List bw)(d:List cN)(n:Nat)(es:Nat->List C)(g:List (Int×Int))(j:g.length=n)(h:aR n es (cH.fn g))
  (a:cD (ι:=Unit) X f args [] (λ_=>.e (.agg [aB 0 ps.length ps.length,aB 1 d.length d.length,aB 2 n n])) (λ_=>[.buf 55 2 ps.length (cP.fn ps),.buf 59 2 d.length (cr.fn d),.buf 86 2 n es])) :
  Ev X f args [] (ey (ps,d,g)) []:=by
 have i:=cD.iW (σ1:=λ_:Unit=>[.buf 55 2 ps.length (cP.fn ps),.buf 59 2 d.length (cr.fn d)]) (E:=86) (k:=2) (n:=λ_=>n) (es:=λ_=>es) a (λ_=>rfl) (λ_=>?_) (λ_=>rfl) (λ_=>gh _)
 have b:=cD.iW (σ1:=λ_:Unit=>[.buf 55 2 ps.length (cP.fn ps)]) (E:=59) (k:=2) (n:=λ_=>d.length) (es:=λ_=>cr.fn d) i (λ_=>rfl) (λ_=>?_) (λ_=>rfl) (λ_=>gh _)
 have c:=cD.iW (σ1:=λ_:Unit=>[]) (E:=55) (k:=2) (n:=λ_=>ps.length) (es:=λ_=>cP.fn ps) b (λ_=>rfl) (λ_=>?_) (λ_=>rfl) (λ_=>bc _)
 refine(c.le (res':=λ_=>ey (ps,d,g)) (λ_=>rfl) (λ_=>?_)).one
 .simp only[ag.cat,ag,aF,aG];exact⟨aR.same,aR.same,j.symm,h⟩
 .simp[ag.cat,ag]
 .simp[ag.cat,ag]
 .simp[ag.cat,ag]
def ED(s:a9)(l:c6)(a:dL s)(h:l.1=4)(g:0<=l.2.1)(d:l.2.1<s.2.2.length)(b:bx .i64 (3-Ew s l)) :
  cD (ι:=Unit) X 23 [ey s,gb l] [] (λ_=>.e (.agg [aB 0 s.1.length s.1.length,aB 1 s.2.1.length s.2.1.length,aB 2 s.2.2.length s.2.2.length])) (λ_=>[.buf 55 2 s.1.length (cP.fn s.1),.buf 59 2 s.2.1.length (cr.fn s.2.1),.buf 86 2 s.2.2.length (Ao s l)]):=by
 refine cD.gy tok Tryz.func23 rfl rfl rfl λf=>?_
 have c:bD X [(18,pn)]:=.cons qf .nil;have i:=a.h;refine aE c [] 100 rfl av ?_;refine AK.cQ (HD s a.p a.p2 a.sn a.s2 a.h) [] rfl ?_;refine aE c [(13,ae),(42,ae),(48,ae),(91,ab),(99,ab)] 100 rfl ?_ ?_
 .have b:bx .i64 (3-(s.2.2.getD (0+l.2.1.toNat) cH.bC).1):=b;simp only[ag,bx,h,bd,aG,aF] at b ⊢
  and_intros <;> first|omega|rfl
 refine AK.dk () [3,4,5] rfl rfl rfl rfl rfl rfl rfl rfl ?_ rfl rfl rfl rfl iY;simp[ag.cat,ag,aR.same]
def HE(s:a9)(l:c6)(c:dL s)(h:l.1=4)(b:0<=l.2.1)(a:l.2.1<s.2.2.length)(d:bx .i64 (3-Ew s l)) :
  Ev X 23 [ey s,gb l] [] (ey (s.1,s.2.1,s.2.2.set (0+l.2.1.toNat) (3-Ew s l,(s.2.2.getD (0+l.2.1.toNat) cH.bC).2))) [] :=
 Lf s.1 s.2.1 _ _ _ (by simp) (cH.qJ s.2.2 (0+l.2.1.toNat) (3-Ew s l,(s.2.2.getD (0+l.2.1.toNat) cH.bC).2) s.2.2.length (bc _)) (ED s l c h b a d)
def EE(s:a9)(l:c6)(a:dL s)(h:l.1=4)(d:¬(0<=l.2.1/\l.2.1<s.2.2.length)):Ev X 23 [ey s,gb l] [] (ey s) []:=by
 refine Ev.iV tok Tryz.func23 rfl rfl rfl λe=>?_
 have b:bD X [(18,pn)]:=.cons qf .nil;have f:=a.h;refine aE b [] 100 rfl av ?_;refine AK.cQ (fp s a.p a.p2 a.sn a.s2 a.h) [] rfl ?_;refine aE b [(13,ae),(42,ae),(48,ae),(91,ab),(99,ae)] 100 rfl ?_ ?_
 .simp only[ag,bx,h,bR,aG,aF]
  and_intros <;> first|omega|rfl
 refine AK.dk () [] rfl rfl rfl rfl rfl rfl rfl rfl ?_ rfl rfl rfl rfl (λj c=>absurd c (by simp))
 simp[ag.cat,ag,aR.same]
abbrev R8(s:a9)(l:c6)(i0 b cap n0:Nat)(a:List ak):List aW:=[IQ s,.cells 32 (KP l),.cells 27 [dm,dm,dm],.buf 55 2 s.1.length (iZ s.1 i0 (.slice (aa ⟨b,0,af⟩) n0 cap)),.buf 59 2 s.2.1.length (cr.fn s.2.1),.buf 86 2 s.2.2.length (cH.fn s.2.2),.dz (ia 88 2 (.row b cap) n0 a),.cells 27 [aB 3 s.1.length s.1.length,aB 4 s.2.1.length s.2.1.length,aB 5 s.2.2.length s.2.2.length]]
def EJ(s:a9)(l:c6)(g:dL s)(h:l.1=3)(i0 m:Nat)(d:Td s l i0 m) :
  cD (ι:={ q:qQ×List ak // dT 2 (s.1.getD i0 (0,[])).2.length (dx.fn (dy (s.1.getD i0 (0,[])).2 m l.2.2.2)) q.2 }) X 23 [ey s,gb l] []
   (λ_=>.e (.agg [aB 0 s.1.length s.1.length,aB 1 s.2.1.length s.2.1.length,aB 2 s.2.2.length s.2.2.length]))
   (λq=>[.buf 55 2 s.1.length (iZ s.1 i0 (lu q.1.1 (s.1.getD i0 (0,[])).2.length)),.buf 59 2 s.2.1.length (cr.fn s.2.1),.buf 86 2 s.2.2.length (cH.fn s.2.2),.dz (ia 88 2 q.1.1 (s.1.getD i0 (0,[])).2.length q.1.2)]):=by
 have u:=d.ml;have H:=g.p2 _ (nz d.i);have E:=g.p;refine cD.gy tok Tryz.func23 rfl rfl rfl λI=>?_
 have a:bD X [(18,pn)]:=.cons qf .nil;refine aE a [] 100 rfl av ?_;refine AK.cP (EI s i0 d.i (by omega) g.p g.p2 g.sn g.s2 g.h) [] rfl (λ_=>rfl) ?_
 rintro⟨⟨bf,y⟩,w⟩;refine AK.Jc (ia.len (l:=6) rfl) λv=>?_
 obtain⟨b,cap,rfl⟩:=v.2.2.1 (by omega)
 refine aE a [(13,ae),(42,ae),(48,ab)] 100 rfl ?_ ?_
 .simp[ag,h]
 refine AK.bJ 8 (λx:Nat×List ak=>x.1<=s.1.length/\(x.1<=i0->x.2=y)/\(i0<x.1->dT 2 (s.1.getD i0 (0,[])).2.length (dx.fn (dy (s.1.getD i0 (0,[])).2 m l.2.2.2)) x.2)) (λx=>[(3,.e (.one (.ptr 1 0))),(4,.e (.one (.ptr 2 0))),(5,.e (.one (.ptr 7 0))),(8,dI x.1)]) (λx=>R8 s l i0 b cap (s.1.getD i0 (0,[])).2.length x.2) (λx=>s.1.length-x.1) (0,y) rfl ?_ rfl ?_ rfl ⟨by omega,λ_=>rfl,λh=>by omega⟩ ?_
 .simp[ag.cat,ag,aR.same]
 .simp only[ag.cat,ag,aR.same,aF,aG]
  and_intros <;> first|exactλ_ _=>rfl|rfl
 rintro⟨i,f⟩ ⟨hi,n,r⟩;simp only at hi n r;have j:0+(i:Int).toNat=i:=by omega
 by_cases h:i<s.1.length
 .by_cases z:i=i0
  .subst z;obtain rfl:=n (bc _);have o:=d.no;have G:=d.at';generalize C:(s.1.getD i (0,[])).2=xs at *;refine aE a [(54,ab),(1000017,ab)] 100 rfl ?_ ?_
   .simp only[ag,bd,aG,aF];omega
   refine AK.NB (ι:=Unit) en 17 20 20 (λk=>bq k 16) (λk=>[.e (.one (.ptr 7 0)),.e (.one (aB 3 s.1.length s.1.length)),dI i,.e (.one (.bp 3 (.el s.1.length 2 (0+(i:Int).toNat) 0))),.e (.one (.bp 3 (.el s.1.length 2 (0+(i:Int).toNat) 0))),dI (s.1.getD (0+(i:Int).toNat) (0,[])).1,.e (.one (.ptr 1 1)),dI l.2.1,dB ((s.1.getD (0+(i:Int).toNat) (0,[])).1==l.2.1),dB ab,.e (.one (.ptr 1 2)),dI l.2.2.1,.e (.one (.ptr 7 0)),.e (.one (aB 3 s.1.length s.1.length)),dI i,.e (.one (.bp 3 (.el s.1.length 2 (0+(i:Int).toNat) 0))),.e (.one (.bp 3 (.el s.1.length 2 (0+(i:Int).toNat) 1)))].getD k .any)
    (λ_ k=>[.e (.one (.c (.val (.slice (aa ⟨b,0,af⟩) xs.length cap)))),dI xs.length,dI (xs.length-1)].getD (k-17) .any)
    (λ_=>R8 s l i b cap xs.length f) rfl rfl rfl rfl rfl rfl rfl (λk h=>by have:=c7 h;omega) rfl
    ⟨OA.cd tok a rfl,OA.cd tok a rfl,OA.cd tok a rfl,OA.eval (ds:=[]) tok a rfl (by simp only[ag,aF];omega),OA.cd tok a rfl,OA.eval (ds:=[]) tok a rfl (by simp only[ag,aG,aF];omega),OA.cd tok a rfl,OA.cd tok a rfl,OA.cd tok a rfl,OA.eval (ds:=[(66,ab)]) tok a rfl (by simp only[ag.cat,ag,j,o,ef,aG]),OA.cd tok a rfl,OA.cd tok a rfl,OA.cd tok a rfl,OA.cd tok a rfl,OA.cd tok a rfl,OA.eval (ds:=[]) tok a rfl (by simp only[ag,aF];omega),OA.cd tok a rfl,av,av,av,av,av,av⟩
    (λ_=>⟨OA.cd tok a rfl,OA.cd tok a rfl,OA.cd tok a rfl,OA.eval (ds:=[]) tok a rfl (by simp only[ag,aF];omega),OA.cd tok a rfl,OA.eval (ds:=[]) tok a rfl (by simp only[ag,aG,aF];omega),OA.cd tok a rfl,OA.cd tok a rfl,OA.cd tok a rfl,OA.eval (ds:=[(66,ab)]) tok a rfl (by simp only[ag.cat,ag,j,o,ef,aG]),OA.cd tok a rfl,OA.cd tok a rfl,OA.cd tok a rfl,OA.cd tok a rfl,OA.cd tok a rfl,OA.eval (ds:=[]) tok a rfl (by simp only[ag,aF];omega),OA.cd tok a rfl,av,OA.eval (ds:=[]) tok a rfl (by simp only[ag,aF];omega),OA.eval (ds:=[]) tok a rfl (by simp only[ag,bx,aF];omega),av⟩)
    (rU.sY (OA.lF (vu rfl) (bF.Bx tok (e:=.one (.c (.val (.slice (aa ⟨b,0,af⟩) xs.length cap)))) rfl rfl rfl rfl rfl ?_ ?_))) λ_=>?_
   .show aa (E1.one (A.c (Dk s.1 i (.slice (aa ⟨b,0,af⟩) xs.length cap) (0+(i:Int).toNat))))=_;rw[j,Dk,bg rfl]
   .show 0+(i:Int).toNat<_;omega
   refine aE a [(78,ab),(1000018,ab)] 100 rfl ?_ ?_
   .simp only[ag,bd,aF];omega
   refine AK.NB (ι:=Unit) en 5 10 8 (λk=>bq k 4||(bq 6 k&&bq k 9)) (λk=>[.e (.one (.ptr 7 0)),.e (.one (aB 3 s.1.length s.1.length)),dI i,.e (.one (.bp 3 (.el s.1.length 2 (0+(i:Int).toNat) 0))),.e (.one (.bp 3 (.el s.1.length 2 (0+(i:Int).toNat) 1))),.any,.e (.one (.ptr 1 2)),dI l.2.2.1,.e (.one (.ptr 1 3)),.e (.one (.c (.str l.2.2.2)))].getD k .any)
    (λ_ k=>[.e (.one (.c (.val (.slice (aa ⟨b,0,af⟩) xs.length cap))))].getD (k-5) .any)
    (λ_=>R8 s l i b cap xs.length f) rfl rfl rfl rfl rfl rfl rfl (λk h=>by simp at h;omega) rfl
    ⟨OA.cd tok a rfl,OA.cd tok a rfl,OA.cd tok a rfl,OA.eval (ds:=[]) tok a rfl (by simp only[ag,aF];omega),OA.cd tok a rfl,av,OA.cd tok a rfl,OA.cd tok a rfl,OA.cd tok a rfl,OA.cd tok a rfl,av,av,av,av⟩
    (λ_=>⟨OA.cd tok a rfl,OA.cd tok a rfl,OA.cd tok a rfl,OA.eval (ds:=[]) tok a rfl (by simp only[ag,aF];omega),OA.cd tok a rfl,av,OA.cd tok a rfl,OA.cd tok a rfl,OA.cd tok a rfl,OA.cd tok a rfl,av⟩)
    (rU.sY (OA.lF (vu rfl) (bF.Bx tok (e:=.one (.c (.val (.slice (aa ⟨b,0,af⟩) xs.length cap)))) rfl rfl rfl rfl rfl ?_ ?_))) λ_=>?_
   .show aa (E1.one (A.c (Dk s.1 i (.slice (aa ⟨b,0,af⟩) xs.length cap) (0+(i:Int).toNat))))=_;rw[j,Dk,bg rfl]
   .show 0+(i:Int).toNat<_;omega
   refine aE a [] 100 rfl ?_ ?_
   .simp only[ag,aF];omega
   have F:f.length=xs.length*2:=w.len;have B:0+l.2.2.1.toNat*2+1=m*2+1:=by omega
   refine AK.DC tok 6 rfl rfl rfl rfl rfl rfl rfl ?_ rfl rfl λvs I9=>?_
   .show 0+l.2.2.1.toNat*2+1+1<=f.length;omega
   have D:=sj w u I9;refine aE a [] 100 rfl ?_ (AK.aQ (i+1,f.take (m*2+1)++vs++f.drop (m*2+1+vs.length)) rfl ?_ ?_ ?_ ?_)
   .simp only[ag,bx,aF];omega
   .simp[ag.cat,ag,aR.same]
   .simp only[ag.cat,ag,aR.same,aF,aG];show ia 88 2 _ _ (List.take (0+l.2.2.1.toNat*2+1) f++vs++List.drop (0+l.2.2.1.toNat*2+1+vs.length) f)=_;rw[B]
   .grind
   grind
  .have t:=d.ne i h z;refine aE a [(54,ab),(66,ae),(78,ae)] 100 rfl ?_ (AK.aQ (i+1,f) rfl ?_ ?_ ?_ ?_)
   .simp only[ag,bx,j,dv,bd,aG,aF]
    and_intros <;> first|exact t|omega
   .simp[ag.cat,ag,aR.same]
   .simp[ag.cat,ag,aR.same]
   .grind
   grind
 obtain rfl:i=s.1.length:=by omega
 refine aE a [(54,ae)] 100 rfl (by simp[ag]) (AK.leaveD rfl rfl ?_)
 refine aE a [] 100 rfl av ?_;refine AK.dk ⟨(.row b cap,f),r d.i⟩ [3,4,5,6] rfl rfl rfl rfl rfl rfl rfl rfl ?_ rfl rfl rfl rfl iY;simp[ag.cat,ag,aR.same]
def HM{f:aV}{args:List D}(s:a9)(l:c6)(i0 m:Nat)(hi:i0<s.1.length)
  (a:cD (ι:={ q:qQ×List ak // dT 2 (s.1.getD i0 (0,[])).2.length (dx.fn (dy (s.1.getD i0 (0,[])).2 m l.2.2.2)) q.2 }) X f args []
   (λ_=>.e (.agg [aB 0 s.1.length s.1.length,aB 1 s.2.1.length s.2.1.length,aB 2 s.2.2.length s.2.2.length]))
   (λq=>[.buf 55 2 s.1.length (iZ s.1 i0 (lu q.1.1 (s.1.getD i0 (0,[])).2.length)),.buf 59 2 s.2.1.length (cr.fn s.2.1),.buf 86 2 s.2.2.length (cH.fn s.2.2),.dz (ia 88 2 q.1.1 (s.1.getD i0 (0,[])).2.length q.1.2)])) :
  Ev X f args [] (ey (gL s l i0 m)) []:=by
 generalize v:s.1.getD i0 (0,[])=p at *;have o:∀ j,j≠i0->cP.fn (gL s l i0 m).1 j=cP.fn s.1 j:=λj g=>by
  simp[hZ.fn,sH,ai,uS,mi g]
 have i:cP.fn (gL s l i0 m).1 i0=[.int .i64 p.1,.sl ae 2 p.2.length (dx.fn (dy p.2 m l.2.2.2))]:=by
  have:(gL s l i0 m).1.getD i0 cP.bC=(p.1,dy p.2 m l.2.2.2):=by
   grind
  show cP.enc ((gL s l i0 m).1.getD i0 cP.bC)=_;rw[this];show [C.int .i64 p.1,C.sl ae 2 (dy p.2 m l.2.2.2).length (dx.fn (dy p.2 m l.2.2.2))]=_;rw[tX]
 have t:=cD.zL (σ1:=λq:{ q:qQ×List ak // dT 2 p.2.length (dx.fn (dy p.2 m l.2.2.2)) q.2 }=>[.buf 55 2 s.1.length (iZ s.1 i0 (lu q.1.1 p.2.length)),.buf 59 2 s.2.1.length (cr.fn s.2.1),.buf 86 2 s.2.2.length (cH.fn s.2.2)]) (σ2:=λ_=>[.buf 55 2 s.1.length (cP.fn (gL s l i0 m).1),.buf 59 2 s.2.1.length (cr.fn s.2.1),.buf 86 2 s.2.2.length (cH.fn s.2.2)]) (E:=88) (k:=2) (n:=p.2.length) (bf:=λq=>q.1.1) (xs:=λq=>q.1.2) a (λq=>q.2) 0 (λ_=>rfl) (λ_=>rfl) (λ_=>rfl) (λ_=>rfl) (λ_=>gh _)
  (λq j g=>by
   by_cases h:j=i0
   .subst h;rw[i];rfl
   .rw[o j h];rfl)
  (λq j g r u d=>by
   by_cases h:j=i0
   .subst h;rw[i] at d;have:iZ s.1 j (lu q.1.1 p.2.length) j=[.int .i64 p.1,.val (lu q.1.1 p.2.length)]:=by simp only[iZ,Dk,cj,v]
    rw[this];rcases r with _|_|r
    .simp at d;subst d;exact⟨_,rfl,.inl rfl⟩
    .simp at d;subst d;exact⟨_,rfl,.inr ⟨rfl,rfl⟩⟩
    .simp at d
   .rw[o j h] at d;have:iZ s.1 i0 (lu q.1.1 p.2.length) j=cP.fn s.1 j:=by simp only[iZ,Dk,aY h];rfl
    rw[this];exact⟨u,d,.inl rfl⟩)
 have w:=cD.iW (σ1:=λ_=>[.buf 55 2 s.1.length (cP.fn (gL s l i0 m).1),.buf 59 2 s.2.1.length (cr.fn s.2.1)]) (E:=86) (k:=2) (n:=λ_=>s.2.2.length) (es:=λ_=>cH.fn s.2.2) t (λ_=>rfl) (λ_=>?_) (λ_=>rfl) (λ_=>gh _)
 have b:=cD.iW (σ1:=λ_=>[.buf 55 2 s.1.length (cP.fn (gL s l i0 m).1)]) (E:=59) (k:=2) (n:=λ_=>s.2.1.length) (es:=λ_=>cr.fn s.2.1) w (λ_=>rfl) (λ_=>?_) (λ_=>rfl) (λ_=>gh _)
 have c:=cD.iW (σ1:=λ_=>[]) (E:=55) (k:=2) (n:=λ_=>s.1.length) (es:=λ_=>cP.fn (gL s l i0 m).1) b (λ_=>rfl) (λ_=>?_) (λ_=>rfl) (λ_=>bc _)
 refine(c.le (res':=λ_=>ey (gL s l i0 m)) (λ_=>rfl) (λ_=>?_)).one
 .simp only[ag.cat,ag,aF,aG,pE];exact⟨aR.same,aR.same,aR.same⟩
 .simp[ag.cat,ag]
 .simp[ag.cat,ag]
 .simp[ag.cat,ag]
def HN(s:a9)(l:c6)(b:dL s)(h:l.1=3)(i0 m:Nat)(a:Td s l i0 m):Ev X 23 [ey s,gb l] [] (ey (gL s l i0 m)) [] :=
 HM s l i0 m a.i (EJ s l b h i0 m a)
def tY(s:a9)(l:c6):Prop:=∀ j,j<s.1.length->¬((s.1.getD j (0,[])).1=l.2.1/\0<=l.2.2.1/\l.2.2.1<(s.1.getD j (0,[])).2.length)
def HL(s:a9)(l:c6)(f:dL s)(j:tY s l):Ev X 54 [.e (.one (.ptr 5 0)),Aj (tg l)] (IP s l) (.eN []) (IP s l):=by
 have n:=f.p;refine cD.ux (cD.n7 (ι:=Unit) (res:=λ_=>.eN []) (σ':=λ_=>IP s l) Tryz.func54 rfl rfl rfl (AK.of_code ?_))
 refine bm rfl av ?_;refine AK.bJ 6 (λi=>i<=s.1.length) (λi:Nat=>[(0,.e (.one (.ptr 5 0))),(1,Aj (tg l)),(8,.e (.one (aB 3 s.1.length s.1.length))),(9,dI s.1.length),(10,dI i)]) (λ_=>IP s l) (λi=>s.1.length-i) 0 rfl ?_ rfl ?_ rfl (by omega) ?_
 .simp[ag.cat,ag,aR.same]
 .simp[ag.cat,ag,aR.same]
 intro i hi
 by_cases h:i<s.1.length
 .have b:=j i h;have k:=f.p2 _ (nz h);have m:0+(i:Int).toNat=i:=by omega
  have c:s.1.getD (0+(i:Int).toNat) cP.bC=s.1.getD i (0,[]):=by rw[m];rfl
  generalize s.1.getD i (0,[])=p at *
  by_cases a:p.1=l.2.1
  .by_cases g:0<=l.2.2.1
   .have d:¬l.2.2.1<p.2.length:=λd=>b ⟨a,g,d⟩
    refine aX [(11,ab),(19,ab),(24,ab),(31,ae)] 100 rfl ?_ (AK.aQ (i+1) rfl ?_ ?_ ?_ ?_)
    .simp only[ag,bx,c,a,ef,bd,bR,aG,aF];and_intros <;> omega
    .simp[ag.cat,ag,aR.same]
    .simp[ag.cat,ag,aR.same]
    .show i+1<=_;omega
    .omega
   .refine aX [(11,ab),(19,ab),(24,ae),(31,ae)] 100 rfl ?_ (AK.aQ (i+1) rfl ?_ ?_ ?_ ?_)
    .simp only[ag,bx,c,a,ef,bd,bR,aG,aF];and_intros <;> omega
    .simp[ag.cat,ag,aR.same]
    .simp[ag.cat,ag,aR.same]
    .show i+1<=_;omega
    .omega
  .refine aX [(11,ab),(19,ae),(24,ae),(31,ae)] 100 rfl ?_ (AK.aQ (i+1) rfl ?_ ?_ ?_ ?_)
   .simp only[ag,bx,c,dv,bd,bR,aG,aF];and_intros <;> first|exact a|omega
   .simp[ag.cat,ag,aR.same]
   .simp[ag.cat,ag,aR.same]
   .show i+1<=_;omega
   .omega
 obtain rfl:i=s.1.length:=by omega
 refine aX [(11,ae)] 100 rfl (by simp[ag]) (AK.leaveD rfl rfl ?_)
 refine bm rfl av ?_;exact⟨(),.inr rfl,rfl,rfl,_,_,_,rfl,rfl,rfl,av⟩
def xP(s:a9)(l:c6)(a:dL s)(h:l.1=3)(b:tY s l) :
  cD (ι:=Unit) X 12 [ey s,gb l] [] (λ_=>.e (.agg [aB 0 s.1.length s.1.length,aB 1 s.2.1.length s.2.1.length,.c (Dj s.2.2)])) (λ_=>[.buf 55 2 s.1.length (cP.fn s.1),.buf 59 2 s.2.1.length (cr.fn s.2.1)]):=by
 refine cD.gy tok Tryz.func12 rfl rfl rfl λd=>?_
 refine bm rfl av ?_;refine AK.cQ (iz s a.p a.p2 a.sn a.s2 a.h) [] rfl ?_;refine bm rfl av ?_;refine AK.cQ (wL l h) [] rfl ?_;refine bm rfl av ?_;refine AK.nO (HL s l a b).A9 rfl rfl rfl rfl ?_ rfl ?_
 .simp[ag,ag.cat]
 intro _;refine bm rfl av ?_;refine AK.dk () [3,4] rfl rfl rfl rfl rfl rfl rfl rfl ?_ rfl rfl rfl rfl iY;simp[ag.cat,ag,aR.same]
def AB(s:a9)(l:c6)(b:dL s)(h:l.1=3)(a:tY s l):Ev X 12 [ey s,gb l] [] (ey s) []:=Ar (xP s l b h a)
abbrev shV(s:a9)(l:c6):List aW:=[IQ s,.cells 32 (KP l),.cells 27 [dm,dm,dm],.vec 55 2 s.1.length (cP.fn s.1),.vec 59 2 s.2.1.length (cr.fn s.2.1),.vec 86 2 s.2.2.length (cH.fn s.2.2),
 .cells 27 [.vec 3 2 s.1.length (cP.fn s.1),.vec 4 2 s.2.1.length (cr.fn s.2.1),.vec 5 2 s.2.2.length (cH.fn s.2.2)]]
def HO(s:a9)(l:c6)(a:dL s)(h:l.1=3)(k:tY s l):Ev X 23 [ey s,gb l] [] (ey s) []:=by
 refine Ev.iV tok Tryz.func23 rfl rfl rfl λo=>?_
 have b:bD X [(18,pn)]:=.cons qf .nil;have n:=a.p;refine aE b [] 100 rfl av ?_;refine AK.cQ (fp s a.p a.p2 a.sn a.s2 a.h) [] rfl ?_;refine aE b [(13,ae),(42,ae),(48,ab)] 100 rfl ?_ ?_
 .simp[ag,h]
 refine AK.bJ 7 (λi=>i<=s.1.length) (λi:Nat=>[(3,.e (.one (.ptr 1 0))),(4,.e (.one (.ptr 2 0))),(5,.e (.one (.ptr 6 0))),(8,dI i)]) (λ_=>shV s l) (λi=>s.1.length-i) 0 rfl ?_ rfl ?_ rfl (by omega) ?_
 .simp[ag.cat,ag]
 .simp[ag.cat,ag,aR.same]
 intro i hi
 by_cases h:i<s.1.length
 .have g:=k i h;have m:=a.p2 _ (nz h);have d:s.1.getD (i:Int).toNat cP.bC=s.1.getD i (0,[]):=by rw[bt];rfl
  generalize s.1.getD i (0,[])=p at *
  by_cases c:p.1=l.2.1
  .refine aE b [(54,ab),(66,ab),(78,ae)] 100 rfl ?_ (AK.aQ (i+1) rfl ?_ ?_ ?_ ?_)
   .simp only[ag,bx,d,c,ef,bd,bR,aG,aF];and_intros <;> omega
   .simp[ag.cat,ag,aR.same]
   .simp[ag.cat,ag,aR.same]
   .show i+1<=_;omega
   .omega
  .refine aE b [(54,ab),(66,ae),(78,ae)] 100 rfl ?_ (AK.aQ (i+1) rfl ?_ ?_ ?_ ?_)
   .simp only[ag,bx,d,dv,bd,bR,aG,aF];and_intros <;> first|exact c|omega
   .simp[ag.cat,ag,aR.same]
   .simp[ag.cat,ag,aR.same]
   .show i+1<=_;omega
   .omega
 obtain rfl:i=s.1.length:=by omega
 refine aE b [(54,ae)] 100 rfl (by simp[ag]) (AK.leaveD rfl rfl ?_)
 refine aE b [] 100 rfl av ?_;refine AK.dk () [] rfl rfl rfl rfl rfl rfl rfl rfl ?_ rfl rfl rfl rfl (λj f=>absurd f (by simp))
 simp[ag.cat,ag,aR.same]
structure wX (s:a9):Prop where
 size:dL s
 Vu:s.1.Pairwise λa b=>a.1<b.1
 num:∀ x∈s.2.1,-4000000<=x.1/\x.1<=4000000
 h:∀ x∈s.2.2,1<=x.1/\x.1<=2
def Lo{s:a9}(d:wX s)(l:c6):(∃ i0 m,Td s l i0 m)∨tY s l:=by
 by_cases h:tY s l
 .exact .inr h
 .refine .inl ?_;simp only[tY,Classical.not_forall,Classical.not_not] at h;obtain⟨i0,hi,c,n,o⟩:=h;refine⟨i0,l.2.2.1.toNat,hi,c,λj b g i=>?_,by omega,by omega⟩
  have f:s.1.getD i0 (0,[])=s.1[i0]:=by rw[ai,bl hi];rfl
  have e:s.1.getD j (0,[])=s.1[j]:=by rw[ai,bl b];rfl
  rw[f] at c;rw[e] at i;rcases cx j i0 with a|k
  .have:=kU.1 d.Vu j i0 b hi a;omega
  .have:=kU.1 d.Vu i0 j hi b (by omega)
   omega
structure Vv (X:Cx ah)(s:a9)(l:c6)(s':a9):Prop where
 z:dL s'
 a:Ev X 12 [ey s,gb l] [] (ey s') []
 b:Ev X 23 [ey s,gb l] [] (ey s') []
end
section
open Go.Proofs
structure TA (s:a9):Prop extends lj s where
 pa:s.1.Pairwise λp q=>p.1<q.1
 sa:s.2.1.Pairwise λx y=>x.1<y.1
 hb:∀ h∈s.2.2,1<=h.1/\h.1<=2
def TA.nil:TA ([],[],[]):=⟨⟨by simp,by simp,by simp,by simp,by simp,by simp⟩,by simp,by simp,by simp⟩
def TA.uk{s:a9}(h:TA s):wX s:=⟨h.LO,h.pa,h.OG.s,h.hb⟩
def TA.ZA{s:a9}(h:TA s):s.2.1.length<=20:=by
 have:=AQ 1 h.sa λx a=>(h.a4 x a).1
 omega
def De{α:Type}{f:α->Int}{l:List α}(h:l.Pairwise λa b=>f a<f b)(j:l.length≠0)(d:α):∀ x∈l,f x<=f (l.getD (l.length-1) d):=by
 intro x e;obtain⟨i,hi,rfl⟩:=dX e;rw[ai,bl (by omega)]
 rcases cx i (l.length-1) with c|g
 .exact Int.le_of_lt (kU.1 h i (l.length-1) hi (by omega) c)
 grind
def TA.save{k:Int}{s:a9}{t:List bE}{by_:Int}(h:TA s)(e:dj t=ab)(hb:1<=by_/\by_<=2)(d:jW k s t=ae):TA (mH k s by_ t):=by
 refine⟨h.tolj.save h.ZA e d,?_,?_,λx a=>?_⟩
 .refine List.pairwise_append.2 ⟨h.pa,xc k _ _ _,λx a y b=>?_⟩
  have h1:x.1<iA s:=by
   unfold iA;split
   .grind
   .rename_i c
    have:=De (f:=λp:bw=>p.1) h.pa c (0,[]) x a
    omega
  have:=tu k _ _ _ y b;omega
 .refine List.pairwise_append.2 ⟨h.sa,by simp,λx a y b=>?_⟩
  rw[kW] at b;subst b;show x.1<fD s;unfold fD;split
  .grind
  .rename_i c
   have:=De (f:=λp:cN=>p.1) h.sa c (0,[]) x a
   omega
 .rcases fR.1 a with a|a
  .exact h.hb x a
  grind
def TA.VW{s:a9}(h:TA s)(p:cN->Bool):TA (s.1,s.2.1.filter p,s.2.2) :=
 ⟨⟨h.a1,h.a2,ez (j1 _ _) h.a3,λx a=>h.a4 x (md.1 a).1,h.a5,h.a6⟩,h.pa,h.sa.filter _,h.hb⟩
def TA.step{s:a9}(h:TA s) (no:Int)(ms:List Int):TA (jr no ms s.1,s.2):=by
 refine⟨⟨?_,λp c=>?_,h.a3,h.a4,h.a5,h.a6⟩,?_,h.sa,h.hb⟩
 .have:(jr no ms s.1).length<=s.1.length:=by unfold jr;grind
  exact ez this h.a1
 .obtain⟨q,b,rfl,_⟩:=EZ c;have:=h.a2 q b;have:=(EY (no:=no) (ms:=ms) (p:=q)).length_le;rw[tz];exact⟨(h.a2 q b).1,by omega⟩
 .show (jr no ms s.1).Pairwise _;unfold jr;refine List.Pairwise.filter _ (List.pairwise_map.2 (h.pa.imp λa=>?_))
  rw[tz,tz];exact a
structure TW (n:Nat)(w:cO):Prop where
 s:TA w.1
 m:w.2.1.length<=n
 l:w.2.2.length<=20
def TW.mono{n m:Nat}{w:cO}(h:TW n w)(a:n<=m):TW m w:=⟨h.s,ez h.m a,h.l⟩
abbrev MT:cO:=(([],[],[]),[],[])
def TW.nil{n:Nat}:TW n MT:=⟨TA.nil,by simp,by simp⟩
def Da(k:Int)(s:a9)(a:List Int):cO×Bool :=
 if gI k s=ab then (((s.1,s.2.1.filter λx=>a.contains x.1,s.2.2),fw (s.2.1.filter λx=>a.contains x.1),s.1.map (·.1)),ab) else (MT,ae)
def MF{s:a9}(h:lj s):(jz s.2.1).length<=240*21:=by
 have b:=h.a3;have c:(jz s.2.1).length<=240*s.2.1.length:=kr λx a=>og (h.a4 x a).2
 omega
def TW.beg{k:Int}{s:a9}{eB:List Int}(h:TA s):TW 6000 (Da k s eB).1:=by
 unfold Da;split
 .have a:=h.VW λx=>eB.contains x.1
  refine⟨a,?_,by simp only[kY];exact h.a1⟩
  have h1:=p0 (s.2.1.filter λx=>eB.contains x.1) _ (bc _)
  have h2:=MF a.tolj
  grind
 .exact TW.nil
def TW.step{n:Nat}{w:cO}(h:TW n w):TW n (AS w):=by
 unfold AS;split
 .exact h
 .rename_i no r hl
  refine⟨h.s.step _ _,h.m,?_⟩;have:=h.l
  grind
def Dc(k:Int)(w:cO) (by_:Int)(t:List bE):cO:=(mH k w.1 by_ t,(ff (ko (fD w.1) k t).2).foldl kS w.2.1,w.2.2)
def SM(k:Int)(w:cO) (by_:Int)(t:List bE):Bool:=fx k w&&decide (1<=by_/\by_<=2)&&dj t
def TW.save{k:Int}{n:Nat}{w:cO}{t:List bE}{by_:Int}(h:TW n w)(c:dj t=ab)(hb:1<=by_/\by_<=2)(b:jW k w.1 t=ae):TW (n+240) (Dc k w by_ t):=by
 have a:=h.s.save c hb b;refine⟨a,?_,h.l⟩;have h1:=gJ w.2.1 (ff (ko (fD w.1) k t).2);have h2:=l5 (ko (fD w.1) k t).2;have e:=og (a.a4 (ko (fD w.1) k t) (by simp[mH])).2
 have d:=h.m;show ((ff _).foldl kS w.2.1).length<=_;omega
def TW.smS{n:Nat}{w:cO}(h:TW n w):OE w.1:=h.s.YJ.toOE
def jZ(l:List (Int×Int)):Int:=l.foldl (λn h=>64*n+21*h.1+h.2) 0
def xp(m:Int×Int)(l:List (Int×Int)):(Int×Int)×Int :=
 if kR l=ab/\m.1<=l.length/\0<=m.1 then
  if jZ (l.take m.1.toNat)=m.2 then (((l.length:Int),jZ l),0) else (m,2)
 else (m,1)
def xr{l:List (Int×Int)}(h:∀ x∈l,(1<=x.1/\x.1<=2)/\1<=x.2/\x.2<=20):∀ i,0<=jZ (l.take i)/\jZ (l.take i)<((64 ^ i:Nat):Int)
 |0=>by simp[jZ]
 |i+1=>by
  have a:=xr h i
  by_cases hi:i<l.length
  .have e:jZ (l.take (i+1))=64*jZ (l.take i)+21*(l.getD i (0,0)).1+(l.getD i (0,0)).2:=by
    unfold jZ;rw[bu hi (0,0),jC];rfl
   grind
  .rw[qT (by omega)]
   rw[qT (by omega)] at a
   rw[Nat.pow_succ];omega
def y8{l:List (Int×Int)}(h:kR l=ab):(∀ x∈l,(1<=x.1/\x.1<=2)/\1<=x.2/\x.2<=20)/\l.length<=9:=by
 simp only[kR,bO,bd,b6] at h;refine⟨λx a=>?_,h.2⟩
 have:=(p9 (p:=gq) (d:=(0,0))).1 h.1 x a;simpa only[gq,bO,bd] using this
def Db{l:List (Int×Int)}(h:∀ x∈l,(1<=x.1/\x.1<=2)/\1<=x.2/\x.2<=20)(c:l.length<=9)(i:Nat):0<=jZ (l.take i)/\jZ (l.take i)<18014398509481984:=by
 rcases Nat.le_total i 9 with b|b
 .have a:=xr h i;have:64 ^ i<=64 ^ 9:=zf (by omega) b
  grind
 .rw[qT (by omega)]
  have a:=xr h l.length;rw[bY] at a;have:64 ^ l.length<=64 ^ 9:=zf (by omega) c
  grind
end
section
open Go.Proofs
variable {X:Cx ah}
abbrev VU(s:a9)(a:List cN)(l:List Int):List aW:=[IQ s,.cells 30 SJ,.cells 30 [qN cP s.1,.vec 4 2 a.length (cr.fn a),qN cH s.2.2,dm,.vec 5 1 l.length (cI.fn l)],IQ s,.vec 59 2 a.length (cr.fn a),.vec 3 1 l.length (cI.fn l)]
def map_take{α a:Type}{l:List α}{f:α->a}{i:Nat}(h:i<l.length)(d:α):(l.take (i+1)).map f=(l.take i).map f++[f (l.getD i d)]:=by
 rw[bu h d,me];rfl
def A6(l:List cN)(q:cN->Bool):(jz (l.filter q)).length<=(jz l).length:=by
 induction l with
 |nil=>simp
 |cons x l a =>
  unfold jz at *
  grind
def Iz(k:Int)(s:a9)(b:List Int)(g:dL s)(o:OE s):Ev X 61 [dI k,ey s,cI.sl b] [] (Th (Da k s b).1 (Da k s b).2) []:=by
 refine Ev.gy Tryz.func61 rfl rfl rfl λy=>?_
 have d:bD X [(39,tp),(41,A0),(38,Cz),(37,w9)]:=.cons yQ (.cons Gs (.cons Gh (.cons CI .nil)));have z:=g.p;have w:=g.sn;unfold Da;cases r:gI k s with
 |false =>
  refine aE d [(15,ab)] 200 rfl ?_ ?_
  .simp only[ag,cP.list_fn,cP.aH,cr.list_fn,cr.aH,cH.list_fn,cH.aH,r,g.p,g.sn,aG,aF,j5];exact o.sm
  refine AK.freeze 6 1 rfl rfl rfl ?_;refine AK.mW tok [] rfl ?_ rfl rfl rfl iY;simp[ag.cat,ag,aR.nil]
 |true =>
 rw[bg rfl];refine aE d [(15,ae),(1000006,ab)] 200 rfl ?_ ?_
 .simp only[ag,cP.list_fn,cP.aH,cr.list_fn,cr.aH,cH.list_fn,cH.aH,r,g.p,g.sn,g,aG,aF,fH];exact o.sm
 refine AK.gi 2 1 59 2 (cr.fn []) rfl rfl ?_;refine AK.gi 2 4 3 1 (cI.fn []) rfl rfl ?_;refine aE d [] 200 rfl av ?_;refine AK.bJ 6 (λi=>i<=s.2.1.length) (λi:Nat=>[(2,cI.sl b),(4,.e (.one (.ptr 0 0))),(6,.e (.one (.ptr 1 0))),(8,.e (.one (.ptr 2 0))),(9,.e (.one (.ptr 3 0))),(10,dI i)])
  (λi=>VU s ((s.2.1.take i).filter λx=>b.contains x.1) []) (λi=>s.2.1.length-i) 0 rfl ?_ rfl ?_ rfl (by omega) ?_
 .simp[ag.cat,ag,aR.same]
 .simp[ag.cat,ag,aR.same,aR.nil,cP.list_fn,cr.list_fn,cH.list_fn]
 .intro i hi;have q:=filter_le s.2.1 (λx=>b.contains x.1) hi
  by_cases h:i<s.2.1.length
  .have j:s.2.1.getD i cr.bC=s.2.1.getD i (0,[]):=rfl;have c:(s.2.1.take (i+1)).filter (λx=>b.contains x.1)=if b.contains (s.2.1.getD i (0,[])).1=ab then (s.2.1.take i).filter (λx=>b.contains x.1)++[s.2.1.getD i (0,[])] else (s.2.1.take i).filter (λx=>b.contains x.1):=xn h (0,[])
   generalize (s.2.1.take i).filter (λx=>b.contains x.1)=a at *
   generalize s.2.1.getD i (0,[])=x at *;cases m:b.contains x.1 with
   |true =>
    rw[bg m] at c;have l:=cr.cm a x;refine aE d [(30,ab),(40,ab)] 200 rfl ?_ (AK.aQ (i+1) rfl (by simp[ag.cat,ag,aR.same]) ?_ h (by omega))
    .simp[-ai,-List.contains_eq_mem,ag,j,h,m,cI.list_fn,cI.aH,bx,show i59.bytes=32 from rfl];omega
    .rw[c];simp only[ag.cat,ag,bt,j,bG,eh,aG,aF]
     and_intros <;> first|exact aR.same|exact l|rfl|omega
   |false =>
    rw[aY (by rw[m];simp)] at c
    refine aE d [(30,ab),(40,ae)] 200 rfl ?_ (AK.aQ (i+1) rfl (by simp[ag.cat,ag,aR.same]) ?_ h (by omega))
    .simp[-ai,-List.contains_eq_mem,ag,j,h,m,cI.list_fn,cI.aH,bx];omega
    .rw[c];simp[ag.cat,ag,aR.same]
  obtain rfl:i=s.2.1.length:=by omega
  rw[bY] at q ⊢;have t:=A6 s.2.1 λx=>b.contains x.1
  have n:jQ (s.1,s.2.1.filter (λx=>b.contains x.1),s.2.2):=λx l=>g.s2 x (md.1 l).1
  have u:=o.aN;generalize s.2.1.filter (λx=>b.contains x.1)=sn at *
  refine aE d [(30,ae)] 200 rfl (by simp[ag]) (AK.leaveD rfl rfl ?_)
  refine aE d [] 200 rfl av ?_;refine AK.bJ 6 (λi=>i<=s.1.length) (λi:Nat=>[(2,cI.sl b),(4,.e (.one (.ptr 0 0))),(6,.e (.one (.ptr 1 0))),(8,.e (.one (.ptr 2 0))),(11,dI i)])
   (λi=>VU s sn ((s.1.take i).map (·.1))) (λi=>s.1.length-i) 0 rfl (by simp[ag.cat,ag,aR.same]) rfl (by simp[ag.cat,ag,aR.same,aR.nil]) rfl (by omega) ?_
  intro i hi;have v:((s.1.take i).map (·.1)).length=i:=by simp;omega
  by_cases h:i<s.1.length
  .have j:s.1.getD i cP.bC=s.1.getD i (0,[]):=rfl;have c:=map_take (f:=λp:bw=>p.1) h (0,[])
   generalize (s.1.take i).map (λp:bw=>p.1)=a at *
   generalize s.1.getD i (0,[])=p at *;have l:=cI.cm a p.1;refine aE d [(57,ab)] 200 rfl ?_ (AK.aQ (i+1) rfl (by simp[ag.cat,ag,aR.same]) ?_ h (by omega))
   .simp[-ai,ag,j,h,bx,show i3.bytes=8 from rfl];omega
   .rw[c];simp only[ag.cat,ag,bt,j,bG,eh,aG,aF]
    and_intros <;> first|exact aR.same|exact l|rfl|omega
  obtain rfl:i=s.1.length:=by omega
  rw[bY];refine aE d [(57,ae)] 200 rfl (by simp[ag]) (AK.leaveD rfl rfl ?_)
  refine aE d [] 200 rfl ?_ ?_
  .simp only[ag,cP.list_fn,cP.aH,cr.list_fn,cr.aH,cH.list_fn,cH.aH,aG,aF];exact⟨n,by omega,by omega⟩
  refine AK.freeze 8 2 rfl rfl rfl ?_;refine AK.freeze 6 1 rfl rfl rfl ?_;refine AK.mW tok [] rfl ?_ rfl rfl rfl iY;simp[ag.cat,ag,aR.same,cr.list_fn]
abbrev Gu:dg:=Di aI N0 (aL cI) (λk s a=>Th (Da k s a).1 (Da k s a).2) λ_ s _=>[dL s,OE s]
def O5:dD X 61 Gu:=.IN λk s a h=>Iz k s a h.1 h.2
def Fc(l:c6)(p:bw):bw:=if p.1=l.2.1/\0<=l.2.2.1/\l.2.2.1<p.2.length then (p.1,dy p.2 l.2.2.1.toNat l.2.2.2) else p
def sF(s:a9)(l:c6):a9 :=
 if l.1=1 then (s.1.filter λx=>!(x.1==l.2.1),s.2.1,s.2.2)
 else if l.1=2 then (if l.2.1<0∨l.2.1>s.2.2.length then s else (s.1,s.2.1.filter λx=>!gU l.2.1.toNat s.2.2 x,s.2.2.take l.2.1.toNat))
 else if l.1=3 then (s.1.map (Fc l),s.2)
 else if l.1=4 then (if 0<=l.2.1/\l.2.1<s.2.2.length then (s.1,s.2.1,s.2.2.set l.2.1.toNat (3-(s.2.2.getD l.2.1.toNat (0,0)).1,(s.2.2.getD l.2.1.toNat (0,0)).2)) else s)
 else s
def Gw{s:a9}{l:c6}(h:tY s l):s.1.map (Fc l)=s.1:=by
 apply pC (by simp)
 intro i b a;rw[List.getElem_map];have:=h i a;rw[ai,bl a,fG] at this;exact aY this
def Df{s:a9}{l:c6}{i0 m:Nat}(h:Td s l i0 m):s.1.map (Fc l)=(gL s l i0 m).1:=by
 have hi:=h.i
 apply iK
 intro j;have e:(gL s l i0 m).1=s.1.set i0 ((s.1.getD i0 (0,[])).1,dy (s.1.getD i0 (0,[])).2 m l.2.2.2):=rfl;rw[e,nF]
 by_cases c:j<s.1.length
 .have b:s.1[j]?=aa (s.1.getD j (0,[])):=by grind
  by_cases a:j=i0
  .subst a;rw[eX c,b];have g:=h.ml;have d:=h.at';simp only[j4,Fc];rw[bg ⟨h.no,by omega,by omega⟩,d,bt]
  .rw[fE (λh=>a h.symm),b]
   simp only[j4,Fc];rw[aY (λf=>h.ne j c a f.1)]
 grind
structure VX (X:Cx ah)(s:a9)(l:c6)(s':a9):Prop where
 z:dL s'
 b:Ev X 23 [ey s,gb l] [] (ey s') []
def C9{s:a9}(o:wX s)(l:c6):VX X s l (sF s l):=by
 have a:=o.size;have w:=a.h;unfold sF
 by_cases n:l.1=1
 .rw[bg n];exact⟨⟨ez (j1 _ _) a.p,λp j=>a.p2 p (md.1 j).1,a.sn,a.s2,a.h⟩,HC s l a n⟩
 rw[aY n]
 by_cases g:l.1=2
 .rw[bg g]
  by_cases c:l.2.1<0∨l.2.1>s.2.2.length
  .rw[bg c];exact⟨a,yF s l s a g (EB s l.2.1 a.h c)⟩
  .rw[aY c];have q:l.2.1=(l.2.1.toNat:Nat):=by omega
   have r:=EC (X:=X) s l.2.1.toNat (by omega) a.sn o.num a.h
   rw[<-q] at r;refine⟨⟨a.p,a.p2,ez (j1 _ _) a.sn,λx t=>a.s2 x (md.1 t).1,?_⟩,yF s l _ a g r⟩
   simp;omega
 rw[aY g]
 by_cases c:l.1=3
 .rw[bg c];rcases Lo o l with⟨i0,m,d⟩|q
  .have e:(s.1.map (Fc l),s.2)=gL s l i0 m:=by rw[Df d]
   rw[e];refine⟨⟨by simpa using a.p,λp j=>?_,a.sn,a.s2,a.h⟩,HN s l a c i0 m d⟩
   rcases List.mem_or_eq_of_mem_set j with j|rfl
   .exact a.p2 p j
   .simpa[dy] using a.p2 _ (nz d.i)
  .rw[Gw q];exact⟨a,HO s l a c q⟩
 rw[aY c]
 by_cases f:l.1=4
 .rw[bg f]
  by_cases k:0<=l.2.1/\l.2.1<s.2.2.length
  .rw[bg k];have v:(s.2.2.getD (0+l.2.1.toNat) cH.bC)∈s.2.2:=by
    grind
   have r:=o.h _ v;have u:bx .i64 (3-Ew s l):=by
    show -9223372036854775808<=_/\_<=9223372036854775807;unfold Ew;omega
   have b:=HE (X:=X) s l a f k.1 k.2 u;have e:s.2.2.set (0+l.2.1.toNat) (3-Ew s l,(s.2.2.getD (0+l.2.1.toNat) cH.bC).2)=s.2.2.set l.2.1.toNat (3-(s.2.2.getD l.2.1.toNat (0,0)).1,(s.2.2.getD l.2.1.toNat (0,0)).2):=by
    grind
   rw[e] at b;exact⟨⟨a.p,a.p2,a.sn,a.s2,by simpa using a.h⟩,b⟩
  .rw[aY k];exact⟨a,EE s l a f k⟩
 .rw[aY f];exact⟨a,HB s l a n g c f⟩
def VY{s:a9}(n:wX s)(l:c6):Ev X 12 [ey s,gb l] [] (ey (sF s l)) []:=by
 have b:=n.size;have r:=b.h;unfold sF
 by_cases j:l.1=1
 .rw[bg j];exact Ch s l b j
 rw[aY j]
 by_cases g:l.1=2
 .rw[bg g]
  by_cases c:l.2.1<0∨l.2.1>s.2.2.length
  .rw[bg c];exact Ar (xN s l b g c)
  .rw[aY c];have k:l.2.1=(l.2.1.toNat:Nat):=by omega
   exact Ci s l b g l.2.1.toNat k (by omega)
 rw[aY g]
 by_cases c:l.1=3
 .rw[bg c];rcases Lo n l with⟨i0,m,f⟩|k
  .have e:(s.1.map (Fc l),s.2)=gL s l i0 m:=by rw[Df f]
   rw[e];exact Cq s l b c i0 m f
  .rw[Gw k];exact AB s l b c k
 rw[aY c]
 by_cases d:l.1=4
 .rw[bg d]
  by_cases i:0<=l.2.1/\l.2.1<s.2.2.length
  .rw[bg i];have p:(s.2.2.getD (0+l.2.1.toNat) cH.bC)∈s.2.2:=by
    grind
   have q:=n.h _ p;have o:bx .i64 (3-Ew s l):=by
    show -9223372036854775808<=_/\_<=9223372036854775807;unfold Ew;omega
   have a:=Ak (X:=X) s l b d i.1 i.2 o
   grind
  .rw[aY i];exact Al s l b d i
 .rw[aY d];exact Ar (Aq s l b j g c d)
def tF{s:a9}(a:wX s)(l:c6):Vv X s l (sF s l):=⟨(C9 (X:=X) a l).z,VY a l,(C9 a l).b⟩
structure A4 (l:List (Int×Int)):Prop where
 h:∀ x∈l,(1<=x.1/\x.1<=2)/\1<=x.2/\x.2<=20
 n:l.length<=9
def A4.of{l:List (Int×Int)}(h:kR l=ab):A4 l:=⟨(y8 h).1,(y8 h).2⟩
def A4.take{l:List (Int×Int)}(h:A4 l)(i:Nat):A4 (l.take i):=⟨λx a=>h.h x (iI a),by have:=h.n;rw[List.length_take];omega⟩
def IA{l:List (Int×Int)}{i:Nat}(h:i<l.length):jZ (l.take (i+1))=64*jZ (l.take i)+21*(l.getD i (0,0)).1+(l.getD i (0,0)).2:=by
 unfold jZ;rw[bu h (0,0),jC];rfl
def MB(l:List (Int×Int))(a:A4 l):Ev X 107 [cH.sl l] [] (dI (jZ l)) []:=by
 refine Ev.bQ Tryz.func107 rfl λf=>?_
 have j:=a.n;refine bm rfl av ?_;refine AK.bJ 0 (λi=>i<=l.length) (λi:Nat=>[(0,cH.sl l),(3,dI (jZ (l.take i))),(4,dI i)]) (λ_=>[]) (λi=>l.length-i) 0 rfl (by simp[ag.cat,ag,aR.same,jZ]) rfl av rfl (by omega) ?_
 intro i hi
 by_cases h:i<l.length
 .have b:l.getD i cH.bC=l.getD i (0,0):=rfl;have g:=IA h;have d:=Db a.h a.n i;have c:=Db a.h a.n (i+1);have e:=a.h _ (iD h (0,0));refine aX [(8,ab)] 100 rfl ?_ (AK.aQ (i+1) rfl ?_ av h (by omega))
  .simp only[ag,bt,b,bx,bd,aG,aF];and_intros <;> omega
  .simp only[ag.cat,ag,bt,b,aG,aF]
   and_intros <;> first|exact aR.same|omega
 obtain rfl:i=l.length:=by omega
 rw[bY];refine aX [(8,ae)] 100 rfl (by simp[ag]) (AK.leaveD rfl rfl ?_)
 exact bm rfl av (AK.bo rfl (by simp[ag]))
abbrev MC:dg:=kN (aL cH) (λl=>dI (jZ l)) λl=>[A4 l]
def SL:dD X 107 MC:=.oH λl h=>MB l h
abbrev Wz(m:Int×Int):D:=.e (.agg [.c (.int .i64 m.1),.c (.int .i64 m.2)])
abbrev WA(q:(Int×Int)×Int):D:=.eN [.agg [.c (.int .i64 q.1.1),.c (.int .i64 q.1.2)],.one (.c (.int .i64 q.2))]
def O8(m:Int×Int)(l:List (Int×Int))(n:l.length<=4000000):Ev X 88 [Wz m,cH.sl l] [] (WA (xp m l)) []:=by
 refine Ev.gy Tryz.func88 rfl rfl rfl λk=>?_
 have b:bD X [(79,ss),(107,MC)]:=.cons Gi (.cons SL .nil);unfold xp;cases a:kR l with
 |false =>
  rw[aY (by simp)]
  refine aE b [(8,ab),(15,ab),(20,ab)] 200 rfl (by simp[ag,a,cH.list_fn,cH.aH]) ?_
  refine AK.freeze 4 1 rfl rfl rfl ?_;exact AK.mW tok [] rfl (by simp[ag.cat,ag]) rfl rfl rfl iY
 |true =>
 have c:=A4.of a
 by_cases f:m.1<=l.length
 rotate_left
 .rw[aY (by simp[f])]
  refine aE b [(8,ae),(15,ab),(20,ab)] 200 rfl ?_ ?_
  .simp only[ag,a,cH.list_fn,cH.aH,fH,bd,aG,aF];omega
  refine AK.freeze 4 1 rfl rfl rfl ?_;exact AK.mW tok [] rfl (by simp[ag.cat,ag]) rfl rfl rfl iY
 by_cases e:0<=m.1
 rotate_left
 .rw[aY (by simp[e])]
  refine aE b [(8,ae),(15,ae),(20,ab)] 200 rfl ?_ ?_
  .simp only[ag,a,cH.list_fn,cH.aH,fH,bd,bR,aG,aF];omega
  refine AK.freeze 4 1 rfl rfl rfl ?_;exact AK.mW tok [] rfl (by simp[ag.cat,ag]) rfl rfl rfl iY
 rw[bg ⟨rfl,f,e⟩];have o:(m.1.toNat:Int)=m.1:=uQ e;have h:cH.list (cn l.length (aa m.1)-cn 0 af) (jJ (cn 0 af) (cH.fn l))=l.take m.1.toNat:=by
  have j:cn l.length (aa m.1)-cn 0 af=m.1.toNat:=by simp[cn]
  rw[j,cH.yA l (λi hi=>by simp[jJ,cn]) (by omega)]
 have g:cH.fits (cn l.length (aa m.1)-cn 0 af) (jJ (cn 0 af) (cH.fn l)):=cH.F9 l (λi hi=>by simp[jJ,cn])
 by_cases d:jZ (l.take m.1.toNat)=m.2
 .rw[bg d];refine aE b [(8,ae),(15,ae),(20,ae),(29,ae)] 200 rfl ?_ ?_
  .simp only[ag,iN,h,g,a,c,c.take,d,cH.list_fn,cH.aH,fH,bd,bR,kX,aG,aF];omega
  refine AK.freeze 4 1 rfl rfl rfl ?_;exact AK.mW tok [] rfl (by simp[ag.cat,ag,cH.list_fn]) rfl rfl rfl iY
 .rw[aY d];refine aE b [(8,ae),(15,ae),(20,ae),(29,ab)] 200 rfl ?_ ?_
  .simp only[ag,iN,h,g,a,c,c.take,cH.list_fn,cH.aH,fH,bd,bR,lq,aG,aF];and_intros <;> first|exact d|omega
  refine AK.freeze 4 1 rfl rfl rfl ?_;exact AK.mW tok [] rfl (by simp[ag.cat,ag]) rfl rfl rfl iY
def sG(k:Int)(w:cO) (by_:Int)(t:List bE):cO×Bool :=
 if SM k w by_ t=ab then (if jW k w.1 t=ab then (w,ae) else (Dc k w by_ t,ab)) else (MT,ae)
structure Mz (w:cO):Prop where
 s:dL w.1
 m:OE w.1
 n:w.2.1.length<=4000000
 l:w.2.2.length<=4000000
def TW.sz{n:Nat}{w:cO}(h:TW n w)(hn:n<=1000000):Mz w:=⟨h.s.tolj.LO,h.smS,by have:=h.m;omega,by have:=h.l;omega⟩
def x6(k:Int)(w:cO) (by_:Int)(t:List bE)(d:Mz w):Ev X 87 [dI k,IT w,dI by_,cF.sl t] [] (Th (sG k w by_ t).1 (sG k w by_ t).2) []:=by
 refine Ev.gy Tryz.func87 rfl rfl rfl λM=>?_
 have b:bD X [(19,tr),(18,pn),(58,Te),(66,vk),(75,AI),(76,AH)]:=.cons yR (.cons qf (.cons t58 (.cons A1 (.cons Gj (.cons EO .nil)))));have q:=d.m;have a:(w.1,w.2.1,w.2.2)=w:=rfl;have u:sG k w by_ t=if fx k w=ab then (if 1<=by_/\by_<=2 then (if dj t=ab then (if jW k w.1 t=ab then (w,ae) else (Dc k w by_ t,ab)) else (MT,ae)) else (MT,ae)) else (MT,ae):=by
  unfold sG SM
  by_cases f:fx k w=ab <;> by_cases g:1<=by_/\by_<=2 <;> by_cases j:dj t=ab <;> simp[f,g,j]
 rw[u];cases f:fx k w with
 |false =>
  rw[aY (by simp)]
  refine aE b [(18,ab),(23,ab),(28,ab)] 200 rfl ?_ ?_
  .simp only[ag,cP.list_fn,cP.aH,cr.list_fn,cr.aH,cH.list_fn,cH.aH,cI.list_fn,cI.aH,a,f,q,j5,aG,aF]
  refine AK.freeze 8 1 rfl rfl rfl ?_;exact AK.mW tok [] rfl (by simp[ag.cat,ag,aR.nil]) rfl rfl rfl iY
 |true =>
 rw[bg rfl]
 by_cases g:1<=by_/\by_<=2
 rotate_left
 .rw[aY g];refine aE b [(18,ae),(23,ab),(28,ab)] 200 rfl ?_ ?_
  .simp only[ag,cP.list_fn,cP.aH,cr.list_fn,cr.aH,cH.list_fn,cH.aH,cI.list_fn,cI.aH,a,f,q,fH,aG,aF];rw[dY g];rfl
  refine AK.freeze 8 1 rfl rfl rfl ?_;exact AK.mW tok [] rfl (by simp[ag.cat,ag,aR.nil]) rfl rfl rfl iY
 rw[bg g];cases j:dj t with
 |false =>
  rw[aY (by simp)]
  refine aE b [(18,ae),(23,ae),(28,ab)] 200 rfl ?_ ?_
  .simp only[ag,cP.list_fn,cP.aH,cr.list_fn,cr.aH,cH.list_fn,cH.aH,cI.list_fn,cI.aH,cF.list_fn,cF.aH,a,f,g,j,q,j7,nN,fH,j5,aG,aF]
  refine AK.freeze 8 1 rfl rfl rfl ?_;exact AK.mW tok [] rfl (by simp[ag.cat,ag,aR.nil]) rfl rfl rfl iY
 |true =>
 rw[bg rfl];have z:=ug.1 f;have D:=z.totw.VA;have J:=D.OG;have c:=Hw (X:=X) k w.1 by_ t z.key d.s J (uf j) D.fj;cases C:jW k w.1 t with
 |true =>
  rw[C,bg rfl] at c;rw[bg rfl];refine aE b [(18,ae),(23,ae),(28,ae)] 200 rfl ?_ ?_
  .simp only[ag,cP.list_fn,cP.aH,cr.list_fn,cr.aH,cH.list_fn,cH.aH,cI.list_fn,cI.aH,cF.list_fn,cF.aH,a,f,g,j,q,j7,nN,fH,j5,aG,aF]
  refine AK.cQ c [] rfl ?_;refine aE b [(42,ab)] 200 rfl ?_ ?_
  .simp only[ag,cP.list_fn,cP.aH,cr.list_fn,cr.aH,cH.list_fn,cH.aH,cI.list_fn,cI.aH,a,d.s,d.n,d.l,fH,j5,aG,aF]
  refine AK.freeze 8 1 rfl rfl rfl ?_;exact AK.mW tok [] rfl (by simp[ag.cat,ag,aR.same,cP.list_fn,cr.list_fn,cH.list_fn,cI.list_fn]) rfl rfl rfl iY
 |false =>
 rw[C,aY (by simp)] at c
 rw[aY (by simp)]
 refine aE b [(18,ae),(23,ae),(28,ae)] 200 rfl ?_ ?_
 .simp only[ag,cP.list_fn,cP.aH,cr.list_fn,cr.aH,cH.list_fn,cH.aH,cI.list_fn,cI.aH,cF.list_fn,cF.aH,a,f,g,j,q,j7,nN,fH,j5,aG,aF]
 refine AK.cQ c [] rfl ?_;have p:=D.save (k:=k) (t:=t) (by_:=by_) (by have:=AQ 1 z.sa λx H=>(z.sn x H).1;omega) j C
 have E:(mH k w.1 by_ t).2.1.length=w.1.2.1.length+1:=by simp[mH]
 have o:(mH k w.1 by_ t).2.1.getD ((mH k w.1 by_ t).2.1.length-1) (0,[])=ko (fD w.1) k t:=by
  rw[E];simp[mH,ai]
 have v:=p.a4 (ko (fD w.1) k t) (by simp[mH])
 have K:=og v.2;have G:=l5 (ko (fD w.1) k t).2;have L:=p.a3;have I:=d.n;unfold Dc;generalize mH k w.1 by_ t=s' at *;generalize ko (fD w.1) k t=x at *;have r:((s'.2.1.length:Int)-1).toNat=s'.2.1.length-1:=by omega
 have F:s'.2.1.getD ((s'.2.1.length:Int)-1).toNat cr.bC=x:=by rw[r];exact o
 refine aE b [(42,ae)] 200 rfl ?_ ?_
 .simp only[ag,F,cP.list_fn,cP.aH,cr.list_fn,cr.aH,cH.list_fn,cH.aH,cI.list_fn,cI.aH,cL.list_fn,cL.aH,a,d.s,d.n,d.l,bx,fH,j5,aG,aF];have:=v.2.1
  and_intros <;> omega
 rw[F];simp only[cL.list_fn];generalize ff x.2=ns at *;refine AK.bJ 4 (λi=>i<=ns.length) (λi:Nat=>[(5,.e (.one (.ptr 0 0))),(8,.e (.one (.ptr 1 0))),(10,.e (.one (.ptr 2 0))),(12,.e (.one (.ptr 3 0))),(13,cI.sl ns),(14,dI i)])
  (λi=>[MS w,.cells 30 SJ,IQ s',MS (s',(ns.take i).foldl kS w.2.1,w.2.2)]) (λi=>ns.length-i) 0 rfl ?_ rfl ?_ rfl (by omega) ?_
 .simp[ag.cat,ag,aR.same]
 .simp[ag.cat,ag,aR.same,aR.nil,cP.list_fn,cr.list_fn,cH.list_fn,cI.list_fn]
 intro i hi
 by_cases h:i<ns.length
 .have y:ns.getD i cI.bC=ns.getD i 0:=rfl;have A:=tq kS w.2.1 h;have B:=gJ w.2.1 (ns.take i);rw[List.length_take] at B;generalize (ns.take i).foldl kS w.2.1=a2 at *;have e:=cI.list_fn a2;refine aE b [(58,ab)] 200 rfl ?_ (AK.aQ (i+1) rfl ?_ ?_ h (by omega))
  .simp[-ai,ag,y,h,e,cI.aH,bx];omega
  .simp[ag.cat,ag,aR.same]
  .rw[A];simp[-ai,ag.cat,ag,y,e,aR.same]
 obtain rfl:i=ns.length:=by omega
 rw[bY];refine aE b [(58,ae)] 200 rfl (by simp[ag]) (AK.leaveD rfl rfl ?_)
 refine aE b [] 200 rfl av ?_;refine AK.freeze 8 1 rfl rfl rfl ?_;exact AK.mW tok [] rfl (by simp[ag.cat,ag,aR.same]) rfl rfl rfl iY
end
end Go.AM.R1
