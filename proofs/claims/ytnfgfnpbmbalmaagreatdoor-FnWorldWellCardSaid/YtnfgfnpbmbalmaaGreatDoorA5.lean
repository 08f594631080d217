/- Part 5. No condition. -/
import Derived.Test.YtnfgfnpbmbalmaaGreatDoorA4
set_option linter.all false
set_option maxHeartbeats 8000000
open Go renaming Value → ak
open Option renaming some → aa
open Go renaming Program → aq
open Go renaming TypeId → ar
open Bool renaming true → ab
open Go renaming Oper → aw
open Go renaming FuncId → aW
open Go renaming execOp → ay
open Go renaming Operand → an
open Option renaming none → af
open Bool renaming false → ae
open Go renaming undef → aj
open List renaming getD_eq_getElem?_getD → ai
open Go renaming World → az
open List renaming range → bh
open Nat renaming beq → aG
open Nat renaming ble → bo
open Go.Op renaming bytesLess → bl
open Go.Proofs.Tryz renaming prog → ah
namespace Go.AM.R1
section
open Go.Proofs
variable {X:Cx ah}
abbrev Yd(x:di):D:=.e (.agg [.c (.int .i64 x.1),.c (.int .i64 x.2)])
def eN(x:di)(acc:List di×Bool)(y:di):List di×Bool :=
 if acc.2=ab then (if y.1=x.1 then acc else (acc.1++[y],ab)) else if x.1<=y.1 then (if y.1=x.1 then (acc.1++[x],ab) else (acc.1++[x,y],ab)) else (acc.1++[y],ae)
def p9(x:di):∀ (l:List di)(a:List di),(l.foldl (eN x) (a,ab))=(a++l.filter λz=>!(z.1==x.1),ab)
 |[],a=>by simp
 |y::r,a=>by
  rw[jl]
  by_cases h:y.1=x.1
  .rw[show eN x (a,ab) y=(a,ab) by simp[eN,h],p9 x r]
   simp[h]
  .rw[show eN x (a,ab) y=(a++[y],ab) by simp[eN,h],p9 x r]
   simp[h]
def yM(x:di):∀ (l:List di)(a:List di),(if (l.foldl (eN x) (a,ae)).2=ab then (l.foldl (eN x) (a,ae)).1 else (l.foldl (eN x) (a,ae)).1++[x])=a++qi l x
 |[],a=>by simp[qi]
 |y::r,a=>by
  rw[jl]
  by_cases h:x.1<=y.1
  .have c:¬y.1<x.1:=by omega
   by_cases b:y.1=x.1
   .rw[show eN x (a,ae) y=(a++[x],ab) by simp[eN,b],p9]
    simp[qi,b]
   .rw[show eN x (a,ae) y=(a++[x,y],ab) by simp[eN,h,b],p9]
    simp[qi,c,b]
  .have c:y.1<x.1:=by omega
   rw[show eN x (a,ae) y=(a++[y],ae) by simp[eN,h],yM x r]
   simp[qi,c]
theorem yN(x:di):∀ (l:List di)(a:List di×Bool),(l.foldl (eN x) a).1.length<=a.1.length+l.length+1-(if a.2=ab then 1 else 0)
 |[],a=>by grind
 |y::r,a=>by
  rw[jl];have d:=yN x r (eN x a y);obtain⟨a,b⟩:=a;simp only[eZ];cases b with
  |true =>
   by_cases c:y.1=x.1
   .rw[show eN x (a,ab) y=(a,ab) by simp[eN,c]] at d ⊢
    grind
   .rw[show eN x (a,ab) y=(a++[y],ab) by simp[eN,c]] at d ⊢
    grind
  |false =>
   by_cases h:x.1<=y.1
   .by_cases c:y.1=x.1
    .rw[show eN x (a,ae) y=(a++[x],ab) by simp[eN,c]] at d ⊢
     grind
    .rw[show eN x (a,ae) y=(a++[x,y],ab) by simp[eN,h,c]] at d ⊢
     grind
   .rw[show eN x (a,ae) y=(a++[y],ae) by simp[eN,h]] at d ⊢
    grind
abbrev si(x:di)(l:List di)(i:Nat):List di×Bool:=(l.take i).foldl (eN x) ([],ae)
def HI{x:di}{l:List di}{i:Nat}(h:i<l.length):si x l (i+1)=eN x (si x l i) (l.getD i (0,0)):=by
 grind [bq]
def Cn(x:di)(l:List di)(i:Nat):(si x l i).1.length<=l.length+1:=by
 grind [yN]
abbrev p4F(l:List di)(x:di)(i:Nat)(a:List di×Bool):Fr:=[(0,oC.sl l),(3,.e (.one (.ptr 0 0))),(5,.e (.one (.vec 1 2 a.1.length (oC.fn a.1)))),(6,dB a.2),(7,dI i)]
abbrev p4B(x:di)(a:List di):List aV:=[.cells 250 [.c (.int .i64 x.1),.c (.int .i64 x.2)],.vec 250 2 a.length (oC.fn a)]
def OD(l:List di)(x:di)(q:l.length<=4000000):Ev X 202 [oC.sl l,Yd x] [] (oC.sl (qi l x)) []:=by
 refine Ev.bQ Tryz.func202 rfl λp=>?_
 refine aX [(1000002,ab)] 200 rfl av ?_;refine AK.ir 5 250 2 rfl rfl ?_;refine dO rfl av ?_;refine AK.bO 2 (λi=>i<=l.length) (λi:Nat=>p4F l x i (si x l i)) (λi=>p4B x (si x l i).1) (λi=>l.length-i) 0 rfl ?_ rfl ?_ rfl (by omega) ?_
 .simp[ag.cat,ag,aP.same,aP.nil,si]
 .simp[ag.cat,ag,aP.same,aP.nil,si]
 intro i hi
 by_cases h:i<l.length
 .have n:=HI (x:=x) h;have k:=Cn x l i;have f:l.getD (i:Int).toNat oC.bD=l.getD i (0,0):=by grind
  generalize si x l i=a at n k;obtain⟨a,b⟩:=a;simp only at k;have j:=oC.cn a (l.getD i (0,0));have m:=oC.cn a x;have d:=oC.pj a x (l.getD i (0,0));cases b with
  |true =>
   by_cases heq:(l.getD i (0,0)).1=x.1
   .have c:si x l (i+1)=(a,ab):=by rw[n];simp only[eN,cq,bc heq]
    refine aX [(12,ab),(38,ae)] 200 rfl ?_ (AK.aQ (i+1) rfl ?_ ?_ ?_ ?_)
    .simp only[ag,f,bu,show i250.bytes=16 from rfl,ba,bJ,ji,rb,gi,dm,ic,cT,heq,ft,nC,dH,dv,kY,ib,ku,aF,aC];and_intros <;> omega
    .rw[c];simp only[ag.cat,ag,f,aF,aC]
     and_intros <;> first|exact j|exact m|exact d|exactλ_ _=>rfl|rfl|omega|simp
    .rw[c];simp only[ag.cat,ag,f,aF,aC]
     and_intros <;> first|exact j|exact m|exact d|exactλ_ _=>rfl|rfl|omega|simp
    .grind
    .omega
   .have c:si x l (i+1)=(a++[l.getD i (0,0)],ab):=by rw[n];simp only[eN,cq,aY heq]
    refine aX [(12,ab),(38,ab)] 200 rfl ?_ (AK.aQ (i+1) rfl ?_ ?_ ?_ ?_)
    .simp only[ag,f,bu,show i250.bytes=16 from rfl,ba,bJ,ji,rb,gi,dm,ic,cT,heq,ft,nC,dH,dv,kY,ib,ku,aF,aC];and_intros <;> omega
    .rw[c];simp only[ag.cat,ag,f,aF,aC]
     and_intros <;> first|exact j|exact m|exact d|exactλ_ _=>rfl|rfl|omega|simp
    .rw[c];simp only[ag.cat,ag,f,aF,aC]
     and_intros <;> first|exact j|exact m|exact d|grind|rfl|omega|simp
    .grind
    .omega
  |false =>
   by_cases g:x.1<=(l.getD i (0,0)).1
   .by_cases heq:(l.getD i (0,0)).1=x.1
    .have c:si x l (i+1)=(a++[x],ab):=by rw[n];simp only[eN,bc g,bc heq];rfl
     refine aX [(12,ab),(25,ab),(38,ae)] 200 rfl ?_ (AK.aQ (i+1) rfl ?_ ?_ ?_ ?_)
     .simp only[ag,f,bu,show i250.bytes=16 from rfl,ba,bJ,ji,rb,gi,dm,ic,cT,g,heq,ft,nC,dH,dv,kY,ib,ku,aF,aC];and_intros <;> omega
     .rw[c];simp only[ag.cat,ag,f,aF,aC]
      and_intros <;> first|exact j|exact m|exact d|exactλ_ _=>rfl|rfl|omega|simp
     .rw[c];simp only[ag.cat,ag,f,aF,aC]
      and_intros <;> first|exact j|exact m|exact d|grind|rfl|omega|simp
     .grind
     .omega
    .have c:si x l (i+1)=(a++[x,l.getD i (0,0)],ab):=by rw[n];simp only[eN,bc g,aY heq];rfl
     refine aX [(12,ab),(25,ab),(38,ab)] 200 rfl ?_ (AK.aQ (i+1) rfl ?_ ?_ ?_ ?_)
     .simp only[ag,f,bu,show i250.bytes=16 from rfl,ba,bJ,ji,rb,gi,dm,ic,cT,g,heq,ft,nC,dH,dv,kY,ib,ku,aF,aC];and_intros <;> omega
     .rw[c];simp only[ag.cat,ag,f,aF,aC]
      and_intros <;> first|exact j|exact m|exact d|exactλ_ _=>rfl|rfl|omega|simp
     .rw[c];simp only[ag.cat,ag,f,aF,aC]
      and_intros <;> first|exact j|exact m|exact d|grind|rfl|omega|simp
     .grind
     .omega
   .have heq:¬(l.getD i (0,0)).1=x.1:=by omega
    have c:si x l (i+1)=(a++[l.getD i (0,0)],ae):=by rw[n];simp only[eN,aY g];rfl
    refine aX [(12,ab),(25,ae),(38,ab)] 200 rfl ?_ (AK.aQ (i+1) rfl ?_ ?_ ?_ ?_)
    .simp only[ag,f,bu,show i250.bytes=16 from rfl,ba,bJ,ji,rb,gi,dm,ic,cT,g,heq,ft,nC,dH,dv,kY,ib,ku,aF,aC];and_intros <;> omega
    .rw[c];simp only[ag.cat,ag,f,aF,aC]
     and_intros <;> first|exact j|exact m|exact d|exactλ_ _=>rfl|rfl|omega|simp
    .rw[c];simp only[ag.cat,ag,f,aF,aC]
     and_intros <;> first|exact j|exact m|exact d|grind|rfl|omega|simp
    .grind
    .omega
 .obtain rfl:i=l.length:=by omega
  have e:=yM x l [];have k:=Cn x l l.length;refine aX [(12,ae)] 200 rfl (by simp[ag]) (AK.leaveD rfl rfl ?_)
  have o:si x l l.length=l.foldl (eN x) ([],ae):=by grind
  rw[o] at k ⊢;generalize l.foldl (eN x) ([],ae)=a at *;obtain⟨a,b⟩:=a;simp only[List.nil_append] at e k;cases b with
  |true =>
   simp only[cq] at e;subst e;refine dO rfl av (AK.bm rfl ?_);simp[ag,ag.cat,aP.same]
  |false =>
   simp only[jE,b9] at e;have j:=oC.cn a x;refine dO rfl ?_ (AK.bm rfl ?_)
   .simp only[ag,show i250.bytes=16 from rfl,aF,aC];grind
   .rw[<-e];simp only[ag.cat,ag,aF,aC]
    and_intros <;> first|exact j|simp
abbrev P4:dh:=p0 (aL oC) S6 (λl x=>oC.sl (qi l x)) λl _=>[l.length<=4000000]
def UU:dG X 202 P4:=.tb λl x h=>OD l x h
abbrev AE(p:bw):List di:=p.2.map λx=>(x.1,p.1)
def tk(l:List bw)(i j:Nat):List di:=fE (l.take i)++(AE (l.getD i (0,[]))).take j
def wS{l:List bw}{i:Nat}(h:i<l.length):fE (l.take (i+1))=fE (l.take i)++AE (l.getD i (0,[])):=by
 rw[bq h (0,[])];simp[fE]
def Ll(l:List bw)(i:Nat):(fE (l.take i)).length<=(fE l).length:=by
 have h:fE l=fE (l.take i)++fE (l.drop i):=by
  unfold fE;rw[<-qZ,j1]
 rw[h,bP];omega
def Co{l:List bw}{i j:Nat}(h:i<l.length):∃ r,fE l=tk l i j++r:=by
 have a:fE l=fE (l.take (i+1))++fE (l.drop (i+1)):=by
  unfold fE;rw[<-qZ,j1]
 refine⟨(AE (l.getD i (0,[]))).drop j++fE (l.drop (i+1)),?_⟩;rw[a,wS h,tk,j5,j5]
 congr 1
 rw[<-j5,j1]
def Lm(l:List di)(x:di):(qi l x).length<=l.length+1:=by
 induction l with
 |nil=>simp[qi]
 |cons y r a =>
  simp only[qi]
  grind
theorem yF(l:List di):∀ a:List di,(l.foldl qi a).length<=a.length+l.length:=by
 induction l with
 |nil=>intro a;simp
 |cons y r b=>intro a;have:=b (qi a y);have:=Lm a y;grind
def EE(l:List bw)(x:l.length<=4000000)(w:(fE l).length<=100000):Ev X 184 [cP.sl l] [] (oC.sl (indexOf l)) []:=by
 refine Ev.bQ Tryz.func184 rfl λv=>?_
 have a:bC X [(201,K7),(202,P4)]:=.cons RO (.cons UU .nil);refine aD a [] 200 rfl av ?_;refine AK.bO 0 (λi=>i<=l.length/\(fE (l.take i)).all lh=ab) (λi:Nat=>[(0,cP.sl l),(3,oC.sl ((fE (l.take i)).foldl qi [])),(4,dI i)]) (λ_=>[]) (λi=>l.length-i) 0 rfl ?_ rfl ?_ rfl ⟨by omega,rfl⟩ ?_
 .simp[ag.cat,ag,aP.same,aP.nil,fE]
 .simp[ag]
 rintro i ⟨hi,b⟩
 by_cases h:i<l.length
 .have e:l.getD (i:Int).toNat cP.bD=l.getD i (0,[]):=by rw[bz];rfl
  have k:=wS h;refine aD a [(11,ab)] 200 rfl (by simp only[ag,ba];omega) ?_
  refine AK.bO 0 (λj=>j<=(l.getD i (0,[])).2.length/\(tk l i j).all lh=ab) (λj:Nat=>[(0,cP.sl l),(3,oC.sl ((tk l i j).foldl qi [])),(4,dI i),(5,dI j)]) (λ_=>[]) (λj=>(l.getD i (0,[])).2.length-j) 0 rfl ?_ rfl ?_ rfl ⟨by omega,by simpa[tk] using b⟩ ?_
  .simp[ag.cat,ag,aP.same,aP.nil,tk]
  .simp[ag]
  rintro j ⟨y,o⟩;obtain⟨r,u⟩:=Co (l:=l) (j:=j) h;have g:(tk l i j).length<=100000:=by grind
  have n:=yF (tk l i j) [];simp only[hZ] at n;have t:(l.getD i (0,[])).2.length<=100000:=by
   have:=Ll l (i+1)
   grind
  by_cases q:j<(l.getD i (0,[])).2.length
  .have c:(l.getD i (0,[])).2.getD (j:Int).toNat dE.bD=(l.getD i (0,[])).2.getD j (0,[]):=by rw[bz];rfl
   have f:tk l i (j+1)=tk l i j++[(((l.getD i (0,[])).2.getD j (0,[])).1,(l.getD i (0,[])).1)]:=by
    unfold tk;rw[j5]
    congr 1
    rw[bq (by simpa using q) (0,0)]
    grind
   cases d:lh (((l.getD i (0,[])).2.getD j (0,[])).1,(l.getD i (0,[])).1) with
   |false =>
    have s:indexOf l=[]:=by
     obtain⟨r,u⟩:=Co (l:=l) (j:=j+1) h;unfold indexOf;rw[aY]
     grind
    refine aD a [(21,ab),(40,ae)] 200 rfl ?_ (AK.ei (b5.zero rfl ?_))
    .simp only[ag,e,c,d,ba,aF,aC];and_intros <;> omega
    .rw[s];simp[ag,ag.cat,aP.nil]
   |true =>
    refine aD a [(21,ab),(40,ab)] 200 rfl ?_ (AK.aQ (j+1) rfl ?_ ?_ ?_ ?_)
    .simp only[ag,e,c,d,bu,oC.list_fn,ba,aF,aC];and_intros <;> first|exact oC.aH _|omega
    .rw[f];simp only[nD,jl,List.foldl_nil,ag.cat,ag,e,c,oC.list_fn,aF,aC]
     and_intros <;> first|exactλ_ _=>rfl|rfl|omega
    .simp[ag]
    .grind
    .omega
  .have p:j=(l.getD i (0,[])).2.length:=by omega
   have m:tk l i j=fE (l.take (i+1)):=by
    rw[k,tk]
    congr 1
    apply uL
    rw[kZ];omega
   refine aD a [(21,ae)] 200 rfl ?_ (AK.leaveD rfl rfl ?_)
   .simp only[ag,e,bJ];and_intros <;> omega
   refine aD a [] 200 rfl ?_ (AK.aQ (i+1) rfl ?_ ?_ ?_ ?_)
   .simp only[ag,bu];omega
   .rw[m];simp[ag.cat,ag,aP.same]
   .simp[ag]
   .grind
   .omega
 .obtain rfl:i=l.length:=by omega
  rw[b6] at b ⊢;refine aD a [(11,ae)] 200 rfl (by simp[ag]) (AK.leaveD rfl rfl ?_)
  refine aD a [] 200 rfl av (AK.bm rfl ?_);simp[ag,ag.cat,aP.same,indexOf,b]
abbrev Li:dh:=jX (aL cP) (λl=>oC.sl (indexOf l)) λl=>[l.length<=4000000,(fE l).length<=100000]
def RX:dG X 184 Li:=.oi λl h=>EE l h.1 h.2
abbrev AF:dh:=p0 aI aS (λk p=>dI (iZ k p)) λk p=>[ck k=ab,bH p=ab]
abbrev Ln:dh:=jX aS (λp=>dS (iF p)) λp=>[bH p=ab]
def P5:dG X 204 Ln:=.oi λp h=>Oy p h
def Lo(l:List cA)(x:cA):(sh l x).length=l.length+1:=by
 induction l with
 |nil=>simp[sh]
 |cons y r a=>simp only[sh];split <;> simp[a]
def RZ(k:Int)(ps:List Bs):List cA:=ps.foldl (λl p=>sh l (iZ k p,iF p)) []
def Ge(k:Int)(ps:List Bs):(RZ k ps).length=ps.length:=by
 have h:∀ (ps:List Bs) (a:List cA),(ps.foldl (λl p=>sh l (iZ k p,iF p)) a).length=a.length+ps.length:=by
  intro ps
  induction ps with
  |nil=>intro a;simp
  |cons p r b=>intro a;rw[jl,b,Lo,eZ];omega
 have:=h ps [];rw[hZ,bt] at this;exact this
def Lp{k:Int}{ps:List Bs}{i:Nat}(h:i<ps.length):RZ k (ps.take (i+1))=sh (RZ k (ps.take i)) (iZ k (ps.getD i []),iF (ps.getD i [])):=by
 unfold RZ;rw[bq h [],nD];rfl
abbrev pkB(no:Int)(l:List cA):aV:=.cells 85 [.c (.int .i64 no),.c (.sl ae 2 l.length (dE.fn l))]
def Lf(no k:Int)(ps:List Bs)(m:ck k=ab)(g:∀ p∈ps,bH p=ab)(q:ps.length<=4000000):Ev X 185 [dI no,dI k,cS.sl ps] [] (xM (kR no k ps)) []:=by
 refine Ev.iu tok Tryz.func185 rfl rfl rfl λo=>?_
 have a:bC X [(181,AF),(204,Ln),(203,P3)]:=.cons Az (.cons P5 (.cons UT .nil));refine aD a [] 200 rfl av ?_;refine AK.bO 2 (λi=>i<=ps.length) (λi:Nat=>[(1,dI k),(2,cS.sl ps),(6,.e (.one (.ptr 0 0))),(7,.e (.one (.ptr 1 0))),(8,dI i)]) (λi=>[.cells 85 [.c (.int .i64 0),.c (.sl ab 0 0 λ_=>[])],pkB no (RZ k (ps.take i))]) (λi=>ps.length-i) 0 rfl ?_ rfl ?_ rfl (by omega) ?_
 .simp[ag.cat,ag,aP.same]
 .simp[ag.cat,ag,aP.same,aP.nil,RZ]
 intro i hi
 by_cases h:i<ps.length
 .have f:ps.getD (i:Int).toNat cS.bD=ps.getD i []:=by rw[bz];rfl
  have d:bH (ps.getD i [])=ab:=g _ (by rw[ai,br h];exact oK h)
  have l:=Lp (k:=k) h;have b:=Ge k (ps.take i);rw[List.length_take] at b;refine aD a [(15,ab)] 200 rfl ?_ (AK.aQ (i+1) rfl ?_ ?_ ?_ ?_)
  .simp only[ag,f,m,d,bu,dE.list_fn,ba,aF,aC];and_intros <;> first|exact dE.aH _|omega
  .simp[ag.cat,ag,aP.same]
  .rw[l];simp only[ag.cat,ag,f,dE.list_fn,aF,aC]
   and_intros <;> first|exactλ_ _=>rfl|rfl|omega
  .show i+1<=_;omega
  .omega
 .obtain rfl:i=ps.length:=by omega
  rw[b6];refine aD a [(15,ae)] 200 rfl (by simp[ag]) (AK.leaveD rfl rfl ?_)
  refine aD a [] 200 rfl av ?_;refine AK.dA () [] rfl rfl rfl rfl rfl rfl rfl rfl ?_ rfl rfl rfl rfl (λj n=>absurd n (by simp))
  simp[ag,ag.cat,aP.same,kR,RZ]
end
end Go.AM.R1
namespace Go.AM
def Fits.LB{args:List D}{σ:List aV}(h:Fits args σ)(k:Nat){cs:List A}(d:args[k]?=aa (.e (.agg cs)))(j:Nat){t:Bool}{q n:Nat}{es:Nat->List C}(hj:cs[j]?=aa (A.c (.sl t q n es))):n<=9223372036854775807:=by
 obtain⟨s,v,b⟩:=h.at d;obtain⟨vs,_,h2⟩:=b;obtain⟨u,_,a⟩:=dM.get h2 hj;cases a <;> omega
namespace R1
def dY{n i:Nat}{p:Nat->Bool}(hi:i<n)(h:p i=ae):(bh n).all p=ae:=by
 cases a:(bh n).all p with
 |false=>rfl
 |true=>rw[cd.1 a i hi] at h;cases h
def fg{i:Nat}{p:Nat->Bool}(a:∀ j,j<i->p j=ab)(h:p i=ab):∀ j,j<i+1->p j=ab:=λj b=>by
 rcases sJ.1 b with b|rfl
 .exact a j b
 .exact h
end R1
end Go.AM
namespace Go.AM.R1
section
open Go.Proofs
variable {X:Cx ah}
def HU(p:Bs):Ev X 225 [dS p] [] (dB (bH p)) []:=by
 refine Ev.bQ Tryz.func225 rfl λb=>?_
 have a:bC X [(15,n3),(154,OI)]:=.cons oF (.cons t154 .nil)
 by_cases h:1<=p.length/\p.length<=8
 .refine aD a [(6,ab)] 100 rfl ?_ (AK.bm rfl ?_)
  .simp[ag];omega
  .simp[ag,bH,h.1,h.2]
 .refine aD a [(6,ae)] 100 rfl ?_ (AK.bm rfl ?_)
  .simp[ag];omega
  .have:bH p=ae:=by simp only[bH,<-Bool.decide_and,eu h,pI]
   simp[ag,this]
abbrev Gg:dh:=jX aS (λp=>dB (bH p)) λ_=>[]
def OJ:dG X 225 Gg:=.oi λp _=>HU p
def HV(p:Bs):Ev X 197 [dS p] [] (dS (iF p)) []:=by
 refine Ev.bQ Tryz.func197 rfl λb=>?_
 have a:bC X [(225,Gg),(204,Ln)]:=.cons OJ (.cons P5 .nil);cases h:bH p with
 |true=>exact aD a [(5,ae)] 100 rfl (by simp[ag,h]) (AK.bm rfl (by simp[ag]))
 |false=>exact aD a [(5,ab)] 100 rfl (by simp[ag,h]) (AK.bm rfl (by simp[ag,iF,h]))
abbrev Gh:dh:=jX aS (λp=>dS (iF p)) λ_=>[]
def OK:dG X 197 Gh:=.oi λp _=>HV p
def HW(p:Bs):(iF p).length<=8:=by
 unfold iF;split
 .rename_i h
  simp only[bH,bL,ba] at h
  grind [wM]
 .simp
def Cv(b:Bs):Ev X 180 [dS b] [] (Ag (fe b)) []:=by
 refine Ev.bQ Tryz.func180 rfl λr=>?_
 have p:=r.str 0 rfl;have i:bC X [(197,Gh)]:=.cons OK .nil;refine bk rfl av ?_;have fin:∀ n,n<=b.length->strip (b.take n)=strip b->(n=0∨strip (b.take n)=b.take n)->b.take n=strip b:=λn a h f=>by
  rcases f with rfl|f
  .simpa[strip] using h
  grind
 have rest:∀ n,n<=b.length->b.take n=strip b->fe b=if b.length<=8/\iF (strip b)=b/\n≠0 then aa (b.take n) else af:=λn a h=>by
  have t:=HW (strip b);have m:n=0↔strip b=[]:=by
   grind [List.take_eq_nil_iff]
  unfold fe;rw[h]
  by_cases d:iF (strip b)=b
  .by_cases o:bH (strip b)=ab
   .have:n≠0:=λq=>by rw[m.1 q] at o;cases o
    grind
   .have q:n=0:=m.2 (by rw[iF,aY o] at d;grind)
    grind
  grind
 refine AK.kN (S2:=Nat) 0 rfl rfl (λn=>n<=b.length/\b.take n=strip b) (λn=>[(0,dS b),(4,dI n)]) (λ_=>[]) 0 (λn=>n<=b.length/\strip (b.take n)=strip b) (λn:Nat=>[(0,dS b),(4,dI n)]) (λ_=>[]) (λn=>n) b.length rfl (by simp[ag.cat,ag]) rfl av rfl ⟨by omega,by simp⟩ ?_ ?_
 .rintro out n ⟨a,c⟩;rcases n with _|n
  .refine aX [(9,ae),(15,ae)] 100 rfl (by simp[ag]) (AK.leaveD rfl rfl ?_)
   exact out 0 ⟨a,fin 0 a c (.inl rfl)⟩ rfl (by simp[ag.cat,ag]) rfl av
  have m:=wA (s:=b) (n:=n) (by omega)
  have g:((n:Int)+1-1).toNat=n:=by omega
  by_cases f:b.getD n 0=46
  .refine aX [(9,ab),(15,ab)] 100 rfl ?_ (AK.aQ n rfl ?_ av ⟨by omega,?_⟩ (by omega))
   .have d:cz b n=46:=by unfold cz;rw[f];rfl
    simp[-ai,ag,cy,g,d,bu];omega
   .simp[ag.cat,ag]
   grind
  .refine aX [(9,ab),(15,ae)] 100 rfl ?_ (AK.leaveD rfl rfl ?_)
   .have d:cz b n≠46:=by
     unfold cz;intro e;exact f (pG.1 (by grind))
    simp[-ai,ag,cy,g,d,bu];omega
   .exact out (n+1) ⟨a,fin _ a c (.inr (by grind))⟩ rfl (by simp[ag.cat,ag]) rfl av
 rintro n ⟨a,l⟩;have j:=rest n a l;have k:rO b af (aa (n:Int))=strip b:=l▸rfl;have hi:((b.length:Int)<=8)↔b.length<=8:=by omega
 by_cases c1:b.length<=8
 .by_cases c2:iF (strip b)=b
  .by_cases c3:n=0
   .refine aD i [(21,ae),(29,ae),(32,ab)] 100 rfl ?_ (AK.bm rfl ?_)
    .subst c3;simp only[ag,k,c2];grind
    .simp[ag,ag.cat,j,c3]
   .refine aD i [(21,ae),(29,ae),(32,ae)] 100 rfl ?_ (AK.bm rfl ?_)
    .simp[ag,k,hi,c1,c2,c3,a]
    .simp[ag,ag.cat,j,k,l,c1,c2,c3]
  .refine aD i [(21,ae),(29,ab),(32,ab)] 100 rfl ?_ (AK.bm rfl ?_)
   .simp[ag,k,hi,c1,c2,a]
   .simp[ag,ag.cat,j,c2]
 .refine aD i [(21,ab),(29,ab),(32,ab)] 100 rfl ?_ (AK.bm rfl ?_)
  .simp[ag];omega
  .simp[ag,ag.cat,j,c1]
abbrev tp:dh:=jX aS (λb=>Ag (fe b)) λ_=>[]
def yR:dG X 180 tp:=.oi λb _=>Cv b
def HX(k:Int)(x:cA)(c:ck k=ab):Ev X 152 [dI k,XR x] [] (dB (right k x)) []:=by
 refine Ev.bQ Tryz.func152 rfl λd=>?_
 have b:bC X [(180,tp),(181,AF)]:=.cons yR (.cons Az .nil);cases a:fe x.2 with
 |none=>exact aD b [(14,ae)] 100 rfl (by simp[ag,a]) (AK.bm rfl (by simp[ag,right,a]))
 |some p=>exact aD b [(14,ab)] 100 rfl (by simp[ag,a,c,wD a]) (AK.bm rfl (by simp[ag,right,a]))
abbrev AI:dh:=p0 aI S5 (λk x=>dB (right k x)) λk _=>[ck k=ab]
def Gi:dG X 152 AI:=.tb λk x h=>HX k x h
def OL(k:Int):Ev X 35 [dI k] [] (dB (ck k)) []:=by
 refine Ev.bQ Tryz.func35 rfl λb=>?_
 have a:bC X [(15,n3)]:=.cons oF .nil;exact aD a [] 100 rfl av (AK.bm rfl (by simp[ag,ck]))
abbrev uc:dh:=jX aI (λk=>dB (ck k)) λ_=>[]
def w6:dG X 35 uc:=.oi λk _=>OL k
abbrev OM(p:bw):aV:=.cells 85 [.c (.int .i64 p.1),.c (sP p)]
def Cw(k:Int)(p:bw) (n:Int):Ev X 158 [dI k,xM p,dI n] [] (Ag (ee k p n)) []:=by
 refine Ev.bQ Tryz.func158 rfl λo=>?_
 have a:bC X [(35,uc),(152,AI),(180,tp)]:=.cons w6 (.cons Gi (.cons yR .nil));cases d:ck k with
 |false =>
  refine aD a [(11,ab)] 100 rfl (by simp[ag,d]) (AK.bm rfl ?_)
  have:ee k p n=af:=by
   unfold ee chunk
   grind
  simp[ag,ag.cat,this]
 |true =>
 have m:=o.LB 1 rfl 1 rfl;refine aD a [(11,ae)] 100 rfl (by simp[ag,d]) ?_
 refine AK.bO 1 (λi=>i<=p.2.length/\p.2.find? (λx=>x.1==n)=(p.2.drop i).find? (λx=>x.1==n)) (λi:Nat=>[(0,dI k),(4,.e (.one (.ptr 0 0))),(2,dI n),(8,dI i)]) (λ_=>[OM p]) (λi=>p.2.length-i) 0 rfl (by simp[ag.cat,ag]) rfl (by simp[ag.cat,ag,aP.same]) rfl ⟨by omega,rfl⟩ ?_
 rintro i ⟨hi,c⟩
 by_cases h:i<p.2.length
 .have j:p.2.getD i dE.bD=fV p i:=rfl;have l:p.2.drop i=fV p i::p.2.drop (i+1):=by grind [List.drop_eq_getElem_cons]
  rw[l,List.find?_cons] at c
  by_cases f:(fV p i).1=n
  .rw[show ((fV p i).1==n)=ab by grind] at c
   cases g:right k (fV p i) with
   |false =>
    have b:right k (n,(fV p i).2)=ae:=f▸g;refine aD a [(16,ab),(26,ab),(34,ab)] 100 rfl ?_ (AK.ei (b5.zero rfl ?_))
    .simp[-ai,ag,j,f,b,d,h]
    .have e:ee k p n=af:=by
      have:=qI (k:=k) (x:=fV p i) d;rw[g] at this;simp only[ee,c];simpa using this
     simp[ag,ag.cat,e]
   |true =>
    have b:right k (n,(fV p i).2)=ab:=f▸g;refine aD a [(16,ab),(26,ab),(34,ae)] 100 rfl ?_ (AK.ei (b5.zero rfl ?_))
    .simp[-ai,ag,j,f,b,d,h]
    .have e:ee k p n=fe (fV p i).2:=by
      simp only[ee,c,chunk];unfold right at g
      grind
     simp[-ai,ag,ag.cat,e,j]
  .rw[show ((fV p i).1==n)=ae by grind] at c
   refine aD a [(16,ab),(26,ae)] 100 rfl ?_ (AK.aQ (i+1) rfl (by simp[ag.cat,ag]) (by simp[ag.cat,ag,aP.same]) ⟨h,c⟩ (by omega))
   simp[-ai,ag,j,f,bu,h];omega
 .obtain rfl:i=p.2.length:=by omega
  refine aD a [(16,ae)] 100 rfl (by simp[ag]) (AK.leaveD rfl rfl ?_)
  refine aD a [] 100 rfl av (AK.bm rfl ?_);simp[ag,ag.cat,ee,c]
abbrev Gj:dh:=Dk aI (Hf dE) aI (λk p n=>Ag (ee k p n)) λ_ _ _=>[]
def ON:dG X 158 Gj:=.IW λk p n _=>Cw k p n
theorem pq(k:Int)(p:bw):jo k p=(decide (1<=p.1/\p.1<=99)&&ck k&&decide (1<=p.2.length/\p.2.length<=4)&&(bh p.2.length).all (iG k p)):=by
 grind [tf]
def HY{k:Int}{p:bw}{i:Nat}(a:i≠0):iG k p i=(right k (fV p i)&&decide ((fV p (i-1)).1<(fV p i).1)):=by
 unfold iG
 grind
def EJ(k:Int)(p:bw):Ev X 89 [dI k,xM p] [] (dB (jo k p)) []:=by
 refine Ev.bQ Tryz.func89 rfl λo=>?_
 have b:bC X [(15,n3),(35,uc),(152,AI)]:=.cons oF (.cons w6 (.cons Gi .nil));have l:=o.LB 1 rfl 1 rfl;rw[pq]
 by_cases c1:1<=p.1/\p.1<=99
 rotate_left
 .exact aD b [(10,ab),(14,ab),(21,ab)] 100 rfl (by simp[ag];omega) (AK.bm rfl (by simp[ag,eu c1]))
 cases c:ck k
 .exact aD b [(10,ae),(14,ab),(21,ab)] 100 rfl (by simp[ag,c,c1]) (AK.bm rfl (by simp[ag]))
 by_cases c3:1<=p.2.length/\p.2.length<=4
 rotate_left
 .exact aD b [(10,ae),(14,ae),(21,ab)] 100 rfl (by simp[ag,c,c1];omega) (AK.bm rfl (by simp[ag,eu c3]))
 refine aD b [(10,ae),(14,ae),(21,ae)] 100 rfl (by simp[ag,c,c1];omega) ?_
 rw[cj c1,cj c3,dJ,dJ,dJ];refine AK.bO 1 (λi=>i<=p.2.length/\∀ j,j<i->iG k p j=ab) (λi:Nat=>[(0,dI k),(3,.e (.one (.ptr 0 0))),(5,dI i)]) (λ_=>[OM p]) (λi=>p.2.length-i) 0 rfl (by simp[ag.cat,ag]) rfl (by simp[ag.cat,ag,aP.same]) rfl ⟨by omega,by omega⟩ ?_
 rintro i ⟨hi,a⟩
 by_cases h:i<p.2.length
 .have g:p.2.getD i dE.bD=fV p i:=rfl;cases d:right k (fV p i) with
  |false =>
   refine aD b [(26,ab),(37,ab),(56,ab)] 100 rfl ?_ (AK.ei (b5.zero rfl ?_))
   .simp[-ai,ag,g,d,c,h]
   .rw[dY h (by simp only[iG,d,pI])];simp[ag]
  |true =>
   by_cases m:i=0
   .subst m;refine aD b [(26,ab),(37,ae),(40,ae),(56,ae)] 100 rfl ?_ (AK.aQ 1 rfl (by simp[ag.cat,ag]) (by simp[ag.cat,ag,aP.same]) ⟨h,fg a (by simp only[iG,d,dJ];rfl)⟩ (by omega))
    simp[-ai,ag,g,d,c,h,bu]
   have f:p.2.getD (i-1) dE.bD=fV p (i-1):=rfl;have q:=HY (k:=k) (p:=p) m
   by_cases n:(fV p (i-1)).1<(fV p i).1
   .refine aD b [(26,ab),(37,ae),(40,ab),(54,ae),(56,ae)] 100 rfl ?_ (AK.aQ (i+1) rfl (by simp[ag.cat,ag]) (by simp[ag.cat,ag,aP.same]) ⟨h,fg a (by grind)⟩ (by omega))
    simp[-ai,ag,g,f,d,c,h,n,bu];omega
   .refine aD b [(26,ab),(37,ae),(40,ab),(54,ab),(56,ab)] 100 rfl ?_ (AK.ei (b5.zero rfl ?_))
    .simp[-ai,ag,g,f,d,c,h,bu];omega
    .rw[dY h (by grind)];simp[ag]
 .obtain rfl:i=p.2.length:=by omega
  refine aD b [(26,ae)] 100 rfl (by simp[ag]) (AK.leaveD rfl rfl ?_)
  exact aD b [] 100 rfl av (AK.bm rfl (by simp[ag,cd.2 a]))
abbrev Cy:dh:=p0 aI (Hf dE) (λk p=>dB (jo k p)) λ_ _=>[]
def LC:dG X 89 Cy:=.tb λk p _=>EJ k p
def iD{α:Type}{l:List α}{i:Nat}{d:α}(h:i<l.length):l.getD i d∈l:=by
 grind
def OO{l:List Int}{n:Int}:l.contains n=!(bh l.length).all λi=>!(l.getD i 0==n):=by
 rw[md,ji,<-oL,cd,zi]
 grind [List.mem_iff_getElem]
def OP(l:List Int) (n:Int):Ev X 47 [cI.sl l,dI n] [] (dB (l.contains n)) []:=by
 refine Ev.bQ Tryz.func47 rfl λe=>?_
 have c:=e.sl 0 rfl;refine bk rfl av ?_;rw[OO];refine AK.jO (λi=>i<=l.length/\∀ j,j<i->(!(l.getD j 0==n))=ab) (λi:Nat=>[(0,cI.sl l),(1,dI n),(5,dI i)]) (λ_=>[]) (λi=>l.length-i) 0 rfl (by simp[ag.cat,ag,aP.same]) rfl av ⟨by omega,by omega⟩ ?_
 rintro i ⟨hi,a⟩
 by_cases h:i<l.length
 .have b:l.getD i cI.bD=l.getD i 0:=rfl
  by_cases d:l.getD i 0=n
  .refine aX [(9,ab),(17,ab)] 100 rfl ?_ (AK.gJ (b5.zero rfl ?_))
   .simp[-ai,ag,b,d,h]
   .rw[dY h (by grind)];simp[ag]
  .refine aX [(9,ab),(17,ae)] 100 rfl ?_ (AK.fU (i+1) rfl (by simp[ag.cat,ag,aP.same]) rfl av ⟨h,fg a (by grind)⟩ (by omega))
   simp[-ai,ag,b,d,h,bu];omega
 .obtain rfl:i=l.length:=by omega
  refine aX [(9,ae)] 100 rfl (by simp[ag]) (AK.leave rfl rfl ?_)
  exact bk rfl av (AK.bm rfl (by rw[cd.2 a];simp[ag]))
abbrev Cz:dh:=p0 (aL cI) aI (λl n=>dB (l.contains n)) λ_ _=>[]
def Gk:dG X 47 Cz:=.tb λl n _=>OP l n
def EK(k:Int)(ps:List bw) (n:Int):Ev X 103 [dI k,cP.sl ps,dI n] [] (Ag (du k ps n)) []:=by
 refine Ev.bQ Tryz.func103 rfl λg=>?_
 have f:=g.sl 1 rfl;have d:bC X [(158,Gj)]:=.cons ON .nil;refine aD d [] 100 rfl av ?_;refine AK.jO (λi=>i<=ps.length/\du k ps n=du k (ps.drop i) n) (λi:Nat=>[(0,dI k),(1,cP.sl ps),(2,dI n),(8,dI i)]) (λ_=>[]) (λi=>ps.length-i) 0 rfl (by simp[ag.cat,ag,aP.same]) rfl av ⟨by omega,rfl⟩ ?_
 rintro i ⟨hi,a⟩
 by_cases h:i<ps.length
 .have c:ps.drop i=ps.getD i (0,[])::ps.drop (i+1):=by grind [List.drop_eq_getElem_cons]
  have e:((ps.getD i cP.bD).1,dE.list (ps.getD i cP.bD).2.length (dE.fn (ps.getD i cP.bD).2))=ps.getD i (0,[]):=by rw[dE.list_fn];rfl
  rw[c,show du k (ps.getD i (0,[])::ps.drop (i+1)) n=_ from List.findSome?_cons] at a
  cases b:ee k (ps.getD i (0,[])) n with
  |some q =>
   rw[b] at a;refine aD d [(14,ab),(27,ab)] 100 rfl ?_ (AK.gJ (b5.zero rfl ?_))
   .simp[-ai,ag,e,b,h,dE.aH]
   .simp[-ai,ag,ag.cat,e,b,a]
  |none =>
   rw[b] at a;refine aD d [(14,ab),(27,ae)] 100 rfl ?_ (AK.fU (i+1) rfl (by simp[ag.cat,ag,aP.same]) rfl av ⟨h,a⟩ (by omega))
   simp[-ai,ag,e,b,h,bu,dE.aH];omega
 .obtain rfl:i=ps.length:=by omega
  refine aX [(14,ae)] 100 rfl (by simp[ag]) (AK.leave rfl rfl ?_)
  exact bk rfl av (AK.bm rfl (by rw[a,pF];simp[ag,ag.cat,du]))
abbrev CB:dh:=Dk aI (aL cP) aI (λk ps n=>Ag (du k ps n)) λ_ _ _=>[]
def LD:dG X 103 CB:=.IW λk ps n _=>EK k ps n
def LF(a b:List Bs):Ev X 159 [cS.sl a,cS.sl b] [] (dB (a==b)) []:=by
 refine Ev.bQ Tryz.func159 rfl λk=>?_
 have f:=k.sl 0 rfl
 by_cases g:a.length=b.length
 rotate_left
 .have:(a==b)=ae:=dm.2 (by rintro rfl;exact g rfl)
  exact aX [(10,ab)] 100 rfl (by simp[ag];omega) (AK.bm rfl (by simp[ag,this]))
 refine aX [(10,ae)] 100 rfl (by simp[ag];omega) ?_
 refine AK.jO (λi=>i<=a.length/\∀ j,j<i->a.getD j []=b.getD j []) (λi:Nat=>[(0,cS.sl a),(1,cS.sl b),(5,dI i)]) (λ_=>[]) (λi=>a.length-i) 0 rfl (by simp[ag.cat,ag,aP.same]) rfl av ⟨by omega,by omega⟩ ?_
 rintro i ⟨hi,d⟩
 by_cases h:i<a.length
 .have e:∀ l:List Bs,l.getD i cS.bD=l.getD i []:=λ_=>rfl
  by_cases c:a.getD i []=b.getD i []
  .refine aX [(14,ab),(25,ae)] 100 rfl ?_ (AK.fU (i+1) rfl (by simp[ag.cat,ag,aP.same]) rfl av ⟨h,λj n=>?_⟩ (by omega))
   .simp[-ai,ag,e,c,bu];omega
   grind
  .refine aX [(14,ab),(25,ab)] 100 rfl ?_ (AK.gJ (b5.zero rfl ?_))
   .simp[-ai,ag,e,c];omega
   .have:(a==b)=ae:=dm.2 (by rintro rfl;exact c rfl)
    simp[ag,this]
 .obtain rfl:i=a.length:=by omega
  have:a=b:=pE g λj c m=>by grind
  refine aX [(14,ae)] 100 rfl (by simp[ag]) (AK.leave rfl rfl ?_)
  exact bk rfl av (AK.bm rfl (by simp[ag,this]))
def Sj:dG X 159 Od:=.tb λa b _=>LF a b
def ud(t:Bs):∀ k f p,p∈ff t k f->p.length<=8
 |0,_,p,h=>by simp[ff] at h
 |k+1,f,p,h=>by
  simp only[ff] at h;split at h
  .rename_i a
   rcases e9.1 h with rfl|h
   .have:=nh t f a
    grind
   .exact ud t k _ p h
  .cases h
def AJ{l:List Bs}{p:Bs}(h:p∈l)(b:8<p.length):fO l=af:=by
 unfold fO;rw[aY];intro a;simp only[bL,gi] at a;have:=ud l.flatten l.flatten.length 0 p (by rw[show ff l.flatten l.flatten.length 0=l from a.2];exact h)
 omega
def uF(l:List Bs)(i:Nat):(l.take i).flatten.length<=l.flatten.length:=by
 have:l.flatten=(l.take i).flatten++(l.drop i).flatten:=by rw[<-List.flatten_append,j1]
 rw[this,bP];omega
def EL{l:List Bs}{i:Nat}(h:40<(l.take i).flatten.length):fO l=af:=by
 have:=uF l i;unfold fO;rw[aY];intro a;simp only[bL,dX,ba] at a;omega
def LG(l:List Bs):Ev X 104 [cS.sl l] [] (Ag (fO l)) []:=by
 refine Ev.bQ Tryz.func104 rfl λm=>?_
 have j:=m.sl 0 rfl;have a:bC X [(94,Wf),(160,Gc),(159,Od)]:=.cons t94 (.cons Lc (.cons Sj .nil));refine aD a [] 100 rfl av ?_;refine AK.jO (λi=>i<=l.length/\(l.take i).flatten.length<=48) (λi:Nat=>[(0,cS.sl l),(4,dS (l.take i).flatten),(5,dI i)]) (λ_=>[]) (λi=>l.length-i) 0 rfl (by simp[ag.cat,ag,aP.same]) rfl av ⟨by omega,by simp⟩ ?_
 rintro i ⟨hi,e⟩
 by_cases h:i<l.length
 .have f:l.getD i cS.bD=l.getD i []:=rfl;have k:(l.take (i+1)).flatten=(l.take i).flatten++l.getD i []:=by rw[bq h []];simp
  by_cases b:(l.getD i []).length<=8
  .by_cases c:(l.take i).flatten.length<=40
   .refine aD a [(9,ab),(18,ae),(22,ae)] 100 rfl ?_ (AK.fU (i+1) rfl ?_ rfl av ⟨h,by rw[k,bP];omega⟩ (by omega))
    .simp[-ai,-List.length_flatten,ag,f,bu];omega
    .simp only[ag.cat,ag,k,aF,aC];exact⟨aP.same,rfl,rfl⟩
   .refine aD a [(9,ab),(18,ae),(22,ab)] 100 rfl ?_ (AK.gJ (b5.zero rfl ?_))
    .simp[-ai,-List.length_flatten,ag,f];omega
    .simp[ag,ag.cat,EL (l:=l) (i:=i) (by omega)]
  .refine aD a [(9,ab),(18,ab),(22,ab)] 100 rfl ?_ (AK.gJ (b5.zero rfl ?_))
   .simp[-ai,ag,f];omega
   .simp[ag,ag.cat,AJ (iD (d:=[]) h) (by omega)]
 .obtain rfl:i=l.length:=by omega
  rw[b6] at e ⊢;refine aD a [(9,ae)] 100 rfl (by simp[ag]) (AK.leave rfl rfl ?_)
  have el:=cS.list_fn l;cases b:dX l.flatten with
  |false=>exact aD a [(32,ab),(38,ab)] 100 rfl (by simp[ag,b]) (AK.bm rfl (by simp[ag,ag.cat,fO,b]))
  |true =>
   have g:b7 l.flatten=ab:=by simp only[dX,bL] at b;exact b.2
   cases c:(pieces l.flatten==l) with
   |false =>
    refine aD a [(32,ae),(38,ab)] 100 rfl ?_ (AK.bm rfl (by simp[ag,ag.cat,fO,c]))
    simp[-List.length_flatten,ag,b,g,el,cS.list_fn,cS.aH,by simpa using c];omega
   |true =>
    refine aD a [(32,ae),(38,ae)] 100 rfl ?_ (AK.bm rfl (by simp[ag,ag.cat,fO,b,c]))
    simp[-List.length_flatten,ag,b,g,el,cS.list_fn,cS.aH,by simpa using c];omega
abbrev LH:dh:=jX (aL cS) (λl=>Ag (fO l)) λ_=>[]
def Sk:dG X 104 LH:=.oi λl _=>LG l
abbrev Wh(s:cC):aV:=.cells 64 [.c (.int .i64 s.1),.c (.sl ae 2 s.2.length (cL.fn s.2))]
abbrev LI(k:Int)(ps:List bw)(ns:List Int):List Bs:=ns.map λn=>(du k ps n).getD []
def OQ{k:Int}{ps:List bw}{ns:List Int}{j:Nat}(h:j<ns.length):LI k ps (ns.take (j+1))=LI k ps (ns.take j)++[(du k ps (ns.getD j 0)).getD []]:=by
 grind [bq]
def CC{k:Int}{ps:List bw}{ns:List Int}{j:Nat}(h:j<ns.length)(a:du k ps (ns.getD j 0)=af):en k ps ns=af:=by
 unfold en;rw[aY]
 grind
def AL{k:Int}{ps:List bw}{ns:List Int}(h:∀ j,j<ns.length->(du k ps (ns.getD j 0)).isSome=ab):en k ps ns=aa (LI k ps ns):=by
 unfold en;rw[bc]
 grind [List.mem_iff_getElem]
def AN(k:Int)(s:cC)(ps:List bw)(J:s.2.length<=4000000)(G:∀ x∈s.2,x.2.length<=4000000) :
  Ev X 64 [dI k,Ek s,cP.sl ps] [] (F3 ((cx k s ps).getD []) (cx k s ps).isSome) []:=by
 refine Ev.bQ Tryz.func64 rfl λI=>?_
 have a:bC X [(35,uc),(103,CB),(104,LH),(53,Ta)]:=.cons w6 (.cons LD (.cons Sk (.cons t53 .nil)));cases w:ck k with
 |false =>
  refine aD a [(19,ab)] 100 rfl ?_ (AK.bm rfl ?_)
  .simp[ag,w]
  .simp[ag,ag.cat,cx,w,aP.nil]
 |true =>
 refine aD a [(19,ae),(1000004,ab)] 100 rfl (by simp[ag,w]) ?_
 refine AK.ir 8 60 2 rfl rfl ?_;refine aD a [] 100 rfl av ?_;refine AK.bO 2 (λi=>i<=s.2.length/\∀ j,j<i->(fileOf k ps (s.2.getD j ([],[]))).isSome=ab) (λi:Nat=>[(0,dI k),(2,cP.sl ps),(4,.e (.one (.ptr 0 0))),(8,.e (.one (.vec 1 2 (cV k ps (s.2.take i)).length (cF.fn (cV k ps (s.2.take i)))))),(9,dI i)]) (λi=>[Wh s,.vec 60 2 (cV k ps (s.2.take i)).length (cF.fn (cV k ps (s.2.take i)))]) (λi=>s.2.length-i) 0 rfl (by simp[ag.cat,ag,aP.same,aP.nil,cV]) rfl (by simp[ag.cat,ag,aP.same,aP.nil,cV]) rfl ⟨by omega,by omega⟩ ?_
 rintro i ⟨hi,D⟩
 by_cases h:i<s.2.length
 .have C:=G _ (iD (d:=([],[])) h);have c:=pe (k:=k) (ps:=ps) h;have y:(cV k ps (s.2.take i)).length=i:=by simp[cV];omega
  have b:s.2.getD (i:Int).toNat cL.bD=s.2.getD i ([],[]):=by grind
  have l:=pf (k:=k) (ps:=ps) h;generalize E:s.2.getD i ([],[])=x at C c b l;generalize cV k ps (s.2.take i)=fs at *;refine aD a [(25,ab),(1000008,ab)] 100 rfl (by simp[ag];omega) ?_
  refine AK.ir 10 9 1 rfl rfl ?_;refine aD a [] 100 rfl av ?_;refine AK.bO 3 (λj=>j<=x.2.length/\∀ q,q<j->(du k ps (x.2.getD q 0)).isSome=ab) (λj:Nat=>[(0,dI k),(2,cP.sl ps),(4,.e (.one (.ptr 0 0))),(8,.e (.one (.vec 1 2 fs.length (cF.fn fs)))),(9,dI i),(10,.e (.one (.vec 2 1 (LI k ps (x.2.take j)).length (cS.fn (LI k ps (x.2.take j)))))),(11,dI j)]) (λj=>[Wh s,.vec 60 2 fs.length (cF.fn fs),.vec 9 1 (LI k ps (x.2.take j)).length (cS.fn (LI k ps (x.2.take j)))]) (λj=>x.2.length-j) 0 rfl (by simp[ag.cat,ag,aP.same,aP.nil]) rfl (by simp[ag.cat,ag,aP.same,aP.nil]) rfl ⟨by omega,by omega⟩ ?_
  rintro j ⟨K,z⟩
  by_cases A:j<x.2.length
  .have f:x.2.getD (j:Int).toNat cI.bD=x.2.getD j 0:=by grind
   cases n:du k ps (x.2.getD j 0) with
   |none =>
    have e:fileOf k ps x=af:=by simp[fileOf,CC A n]
    refine aD a [(37,ab),(56,ab)] 100 rfl ?_ (AK.ei (AK.rY (b5.zero rfl ?_)))
    .simp only[ag,b,f,n,cP.list_fn,cP.aH];grind
    .rw[l e];simp[ag,ag.cat,aP.nil]
   |some q =>
    have g:=OQ (k:=k) (ps:=ps) A;rw[n] at g;have o:(LI k ps (x.2.take j)).length=j:=by grind
    have p:=cS.cn (LI k ps (x.2.take j)) q;refine aD a [(37,ab),(56,ae)] 100 rfl ?_ (AK.aQ (j+1) rfl ?_ ?_ ⟨A,λr H=>?_⟩ (by omega))
    .simp only[ag,b,f,n,cP.list_fn,cP.aH,o,bu,show i9.bytes=16 from rfl];grind
    .rw[g];simp only[ag.cat,ag,b,f,n,cP.list_fn,bP,er,aF,aC]
     and_intros <;> first|exact aP.same|exact p|rfl|omega
    .rw[g];simp only[ag.cat,ag,b,f,n,cP.list_fn,bP,er,aF,aC]
     and_intros <;> first|exact aP.same|exact p|rfl|omega
    grind
  .obtain rfl:j=x.2.length:=by omega
   have u:=AL z;rw[b6];have o:(LI k ps x.2).length=x.2.length:=by simp
   refine aD a [(37,ae)] 100 rfl (by simp only[ag,b];simp[h]) (AK.leaveD rfl rfl ?_)
   cases m:fO (LI k ps x.2) with
   |none =>
    have e:fileOf k ps x=af:=by simp[fileOf,u,m]
    refine aD a [(68,ab)] 100 rfl ?_ (AK.ei (b5.zero rfl ?_))
    .simp only[ag,cS.list_fn,cS.aH,m];simp
    .rw[l e];simp[ag,ag.cat,aP.nil]
   |some t =>
    have e:fileOf k ps x=aa (x.1,t):=by simp[fileOf,u,m]
    rw[e] at c;have B:=cF.cn fs (x.1,t);refine aD a [(68,ae)] 100 rfl ?_ (AK.aQ (i+1) rfl ?_ ?_ ⟨h,λr H=>?_⟩ (by omega))
    .simp only[ag,b,cS.list_fn,cS.aH,m,y,bu,show i60.bytes=32 from rfl];grind
    .rw[c];simp only[ag.cat,ag,b,cS.list_fn,m,fI,bP,er,aF,aC]
     and_intros <;> first|exact aP.same|exact B|rfl|omega
    .rw[c];simp only[ag.cat,ag,b,cS.list_fn,m,fI,bP,er,aF,aC]
     and_intros <;> first|exact aP.same|exact B|rfl|omega
    grind
 .obtain rfl:i=s.2.length:=by omega
  rw[b6];have F:s.2.all (λx=>(fileOf k ps x).isSome)=ab:=List.all_eq_true.2 λx C=>by
   grind [List.mem_iff_getElem]
  refine aD a [(25,ae)] 100 rfl (by simp[ag]) (AK.leaveD rfl rfl ?_)
  cases v:dj (cV k ps s.2) with
  |false =>
   refine aD a [(83,ab)] 100 rfl ?_ (AK.bm rfl ?_)
   .simp[ag,cF.list_fn,cF.aH,v]
   .simp[ag,ag.cat,cx,v,aP.nil]
  |true =>
   refine aD a [(83,ae)] 100 rfl ?_ (AK.bm rfl ?_)
   .simp[ag,cF.list_fn,cF.aH,v]
   .simp[ag,ag.cat,cx,v,w,F,aP.same]
abbrev qN:dh:=Dk aI (Hf cL) (aL cP) (λk s ps=>F3 ((cx k s ps).getD []) (cx k s ps).isSome) λ_ s _=>[s.2.length<=4000000,∀ x∈s.2,x.2.length<=4000000]
def w7:dG X 64 qN:=.IW λk s ps h=>AN k s ps h.1 h.2
abbrev sr:=Int×Int
def gq(h:sr):Bool:=decide (1<=h.1/\h.1<=2)&&decide (1<=h.2/\h.2<=20)
def jy(l:List sr):Bool:=(bh l.length).all (λi=>gq (l.getD i (0,0)))&&decide (l.length<=9)
abbrev Yh(h:sr):D:=.e (.agg [.c (.int .i64 h.1),.c (.int .i64 h.2)])
def HZ(h:sr):Ev X 102 [Yh h] [] (dB (gq h)) []:=by
 refine Ev.bQ Tryz.func102 rfl λb=>?_
 have a:bC X [(15,n3)]:=.cons oF .nil
 by_cases c:1<=h.1/\h.1<=2
 .exact aD a [(6,ab)] 100 rfl (by simp[ag,c]) (AK.bm rfl (by simp[ag,gq,c]))
 .exact aD a [(6,ae)] 100 rfl (by simp[ag];omega) (AK.bm rfl (by simp only[ag,gq,eu c];simp))
def H0(l:List sr):Ev X 62 [cH.sl l] [] (dB (jy l)) []:=by
 refine Ev.bQ Tryz.func62 rfl λf=>?_
 have e:=f.sl 0 rfl;have b:bC X [(102,jX S6 (λh=>dB (gq h)) λ_=>[])]:=.cons (.oi λh _=>HZ h) .nil
 refine aD b [] 100 rfl av ?_;unfold jy;refine AK.jO (λi=>i<=l.length/\∀ j,j<i->gq (l.getD j (0,0))=ab) (λi:Nat=>[(0,cH.sl l),(3,dI i)]) (λ_=>[]) (λi=>l.length-i) 0 rfl (by simp[ag.cat,ag,aP.same]) rfl av ⟨by omega,by omega⟩ ?_
 rintro i ⟨hi,a⟩
 by_cases h:i<l.length
 .have d:l.getD i cH.bD=l.getD i (0,0):=rfl;cases c:gq (l.getD i (0,0)) with
  |false =>
   refine aD b [(7,ab),(15,ab)] 100 rfl ?_ (AK.gJ (b5.zero rfl ?_))
   .simp[-ai,ag,d,c,h]
   .rw[dY h c];simp[ag]
  |true =>
   refine aD b [(7,ab),(15,ae)] 100 rfl ?_ (AK.fU (i+1) rfl (by simp[ag.cat,ag,aP.same]) rfl av ⟨h,fg a c⟩ (by omega))
   simp[-ai,ag,d,c,h,bu];omega
 .obtain rfl:i=l.length:=by omega
  refine aD b [(7,ae)] 100 rfl (by simp[ag]) (AK.leave rfl rfl ?_)
  exact aD b [] 100 rfl av (AK.bm rfl (by rw[cd.2 a];simp[ag];omega))
abbrev lH:dh:=jX (aL cH) (λl=>dB (jy l)) λ_=>[]
def Gl:dG X 62 lH:=.oi λl _=>H0 l
def bY(ps:List bw):List Int:=ps.flatMap λp=>p.2.map (·.1)
def CE{α:Type}(f:α->Int)(d:α)(l:List α)(i:Nat):Bool:=i==0||decide (f (l.getD (i-1) d)<f (l.getD i d))
def l7(k:Int)(ps:List bw)(i:Nat):Bool:=jo k (ps.getD i (0,[]))&&CE (·.1) (0,[]) ps i
def jV(k:Int)(s:aZ)(i:Nat):Bool:=decide (1<=(s.2.1.getD i (0,[])).1/\(s.2.1.getD i (0,[])).1<=20)&&CE (·.1) (0,[]) s.2.1 i&&(cx k (s.2.1.getD i (0,[])) s.1).isSome
def gF(k:Int)(s:aZ):Bool:=(bh s.1.length).all (l7 k s.1)&&decide (bY s.1).Nodup&&(bh s.2.1.length).all (jV k s)&&ck k&&jy s.2.2&&decide (s.1.length<=20)
def w8{ps:List bw}{i:Nat}(h:i<ps.length):bY (ps.take (i+1))=bY (ps.take i)++(ps.getD i (0,[])).2.map (·.1):=by
 rw[bq h (0,[])];simp[bY]
def H3{ps:List bw}{i:Nat}(h:¬(bY (ps.take i)).Nodup):¬(bY ps).Nodup:=λa=>h (by
 have:bY ps=bY (ps.take i)++bY (ps.drop i):=by unfold bY;rw[<-qZ,j1]
 grind)
abbrev MZ(s:aZ):aV:=.cells 27 [.c (.sl ae 2 s.1.length (cP.fn s.1)),.c (.sl ae 2 s.2.1.length (cm.fn s.2.1)),.c (.sl ae 2 s.2.2.length (cH.fn s.2.2))]
def LJ(k:Int)(s:aZ)(x:cC)(a:x.2.length<=4000000)(b:∀ y∈x.2,y.2.length<=4000000):Ev X 90 [dI k,eH s,Ek x] [] (dB (cx k x s.1).isSome) []:=by
 refine Ev.bQ Tryz.func90 rfl λd=>?_
 have c:bC X [(64,qN)]:=.cons w7 .nil;have e:(x.1,cL.list x.2.length (cL.fn x.2))=x:=by rw[cL.list_fn]
 refine aD c [] 100 rfl ?_ (AK.bm rfl ?_)
 .simp only[ag,cL.list_fn,cL.aH,cP.aH,a,aF,aC];exact b
 .simp[ag,ag.cat,cL.list_fn,cP.list_fn]
abbrev LK:dh:=Dk aI Oe (Hf cL) (λk s x=>dB (cx k x s.1).isSome) λ_ _ x=>[x.2.length<=4000000,∀ y∈x.2,y.2.length<=4000000]
def Sl:dG X 90 LK:=.IW λk s x h=>LJ k s x h.1 h.2
def mF{α:Type}{f:α->Int}{d:α}{l:List α}{i:Nat}(h:i≠0):CE f d l i=decide (f (l.getD (i-1) d)<f (l.getD i d)):=by
 unfold CE;grind
def CF(k:Int)(s:aZ)(M:iS s)(Q:s.1.length<=4000000)(P:s.2.1.length<=4000000):Ev X 48 [dI k,eH s] [] (dB (gF k s)) []:=by
 refine Ev.bQ Tryz.func48 rfl λO=>?_
 have c:bC X [(89,Cy),(47,Cz),(15,n3),(90,LK),(35,uc),(62,lH)]:=.cons LC (.cons Gk (.cons oF (.cons Sl (.cons w6 (.cons Gl .nil)))));refine aD c [(1000002,ab)] 100 rfl av ?_;refine AK.ir 5 3 1 rfl rfl ?_;refine aD c [] 100 rfl av ?_;unfold gF;refine AK.bO 2 (λi=>i<=s.1.length/\(∀ j,j<i->l7 k s.1 j=ab)/\(bY (s.1.take i)).Nodup/\(bY (s.1.take i)).length<=4*i) (λi:Nat=>[(0,dI k),(3,.e (.one (.ptr 0 0))),(5,.e (.one (.vec 1 1 (bY (s.1.take i)).length (cI.fn (bY (s.1.take i)))))),(6,dI i)]) (λi=>[MZ s,.vec 3 1 (bY (s.1.take i)).length (cI.fn (bY (s.1.take i)))]) (λi=>s.1.length-i) 0 rfl (by simp[ag.cat,ag,aP.nil,bY]) rfl (by simp[ag.cat,ag,aP.nil,aP.same,bY]) rfl ⟨by omega,by omega,by simp[bY],by simp[bY]⟩ ?_
 rintro i ⟨hi,g,z,L⟩
 by_cases h:i<s.1.length
 .have y:=w8 h;have G:=H3 (ps:=s.1) (i:=i+1);have m:s.1.getD i cP.bD=s.1.getD i (0,[]):=rfl;have n:s.1.getD (i-1) cP.bD=s.1.getD (i-1) (0,[]):=rfl;have b:l7 k s.1 i=(jo k (s.1.getD i (0,[]))&&CE (·.1) (0,[]) s.1 i):=rfl;have D:=mF (f:=λp:bw=>p.1) (d:=(0,[])) (l:=s.1) (i:=i)
  generalize F:s.1.getD i (0,[])=p at *;generalize s.1.getD (i-1) (0,[])=p' at *;cases t:jo k p with
  |false =>
   rw[t,pI] at b;refine aD c [(14,ab),(25,ab),(44,ab)] 100 rfl ?_ (AK.ei (b5.zero rfl ?_))
   .simp[-ai,ag,m,t,dE.list_fn,dE.aH,h]
   .rw[dY h b];simp[ag]
  |true =>
   have R:p.2.length<=4:=by grind [pq]
   rw[t,dJ] at b;cases u:CE (·.1) (0,[]) s.1 i with
   |false =>
    have r:i≠0:=by rintro rfl;cases u
    have B:¬p'.1<p.1:=by grind
    refine aD c [(14,ab),(25,ae),(28,ab),(42,ab),(44,ab)] 100 rfl ?_ (AK.ei (b5.zero rfl ?_))
    .simp[-ai,ag,m,n,t,dE.list_fn,dE.aH,h,bu];omega
    .rw[dY h (b.trans u)];simp[ag]
   |true =>
   rw[u] at b
   apply AK.join [(0,dI k),(3,.e (.one (.ptr 0 0))),(5,.e (.one (.vec 1 1 (bY (s.1.take i)).length (cI.fn (bY (s.1.take i)))))),(6,dI i),(7,dI 0)] [MZ s,.vec 3 1 (bY (s.1.take i)).length (cI.fn (bY (s.1.take i)))]
   .intro w
    by_cases r:i=0
    .subst r;refine aD c [(14,ab),(25,ae),(28,ae),(44,ae)] 100 rfl ?_ (w _ _ rfl ?_)
     .simp[-ai,ag,m,t,dE.list_fn,dE.aH,h]
     .simp[ag.cat,ag,aP.same]
    .have B:p'.1<p.1:=by grind
     refine aD c [(14,ab),(25,ae),(28,ab),(42,ae),(44,ae)] 100 rfl ?_ (w _ _ rfl ?_)
     .simp[-ai,ag,m,n,t,dE.list_fn,dE.aH,h,bu];omega
     .simp[ag.cat,ag,aP.same]
   generalize bY (s.1.take i)=ns at *;refine AK.bO 2 (λj=>j<=p.2.length/\(ns++(p.2.take j).map (·.1)).Nodup) (λj:Nat=>[(0,dI k),(3,.e (.one (.ptr 0 0))),(5,.e (.one (.vec 1 1 (ns++(p.2.take j).map (·.1)).length (cI.fn (ns++(p.2.take j).map (·.1)))))),(6,dI i),(7,dI j)]) (λj=>[MZ s,.vec 3 1 (ns++(p.2.take j).map (·.1)).length (cI.fn (ns++(p.2.take j).map (·.1)))]) (λj=>p.2.length-j) 0 rfl (by simp[ag.cat,ag,aP.same]) rfl (by simp[ag.cat,ag,aP.same]) rfl ⟨by omega,by grind⟩ ?_
   rintro j ⟨S,E⟩
   by_cases o:j<p.2.length
   .have A:p.2.getD j dE.bD=fV p j:=rfl;have v:ns++(p.2.take (j+1)).map (·.1)=(ns++(p.2.take j).map (·.1))++[(fV p j).1]:=by grind [bq]
    have x:(ns++(p.2.take j).map (·.1)).length=ns.length+j:=by grind
    generalize ns++(p.2.take j).map (·.1)=a at *;cases K:a.contains (fV p j).1 with
    |true =>
     refine aD c [(53,ab),(67,ab)] 100 rfl ?_ (AK.ei (AK.rY (b5.zero rfl ?_)))
     .simp[-ai,-List.contains_eq_mem,ag,m,A,h,o,K,cI.list_fn,cI.aH]
     .have N:¬(bY s.1).Nodup:=G (by
       have e:ns++p.2.map (·.1)=(ns++(p.2.take (j+1)).map (·.1))++(p.2.drop (j+1)).map (·.1):=by grind [List.take_append_drop]
       grind)
      simp[ag,N]
    |false =>
     have I:=cI.cn a (fV p j).1;have C:cI.list (ns.length+j) (cI.fn a)=a:=by rw[<-x];exact cI.list_fn a
     refine aD c [(53,ab),(67,ae)] 100 rfl ?_ (AK.aQ (j+1) rfl ?_ ?_ ⟨o,?_⟩ (by omega))
     .simp[-ai,-List.contains_eq_mem,ag,m,A,h,o,K,cI.list_fn,cI.aH,x,C,bu,show i3.bytes=8 from rfl];omega
     .rw[v];simp only[ag.cat,ag,bz,m,A,bP,er,aF,aC]
      and_intros <;> first|exact aP.same|exact I|rfl|omega
     .rw[v];simp only[ag.cat,ag,bz,m,A,bP,er,aF,aC]
      and_intros <;> first|exact aP.same|exact I|rfl|omega
     grind
   .obtain rfl:j=p.2.length:=by omega
    rw[b6] at E ⊢;refine aD c [(53,ae)] 100 rfl ?_ (AK.leaveD rfl rfl ?_)
    .simp[-ai,ag,m,h]
    refine aD c [] 100 rfl ?_ (AK.aQ (i+1) rfl ?_ ?_ ⟨h,fg g b,by grind,by grind⟩ (by omega))
    .simp[ag,bu];omega
    .rw[y];simp[ag.cat,ag,aP.same]
    .rw[y];simp[ag.cat,ag,aP.same]
 obtain rfl:i=s.1.length:=by omega
 rw[b6] at z ⊢;refine aD c [(14,ae)] 100 rfl (by simp[ag]) (AK.leaveD rfl rfl ?_)
 refine aD c [] 100 rfl av ?_;rw[cd.2 g,cj z,dJ,dJ];generalize bY s.1=ns;refine AK.bO 2 (λi=>i<=s.2.1.length/\(∀ j,j<i->jV k s j=ab)) (λi:Nat=>[(0,dI k),(3,.e (.one (.ptr 0 0))),(8,dI i)]) (λ_=>[MZ s,.vec 3 1 ns.length (cI.fn ns)]) (λi=>s.2.1.length-i) 0 rfl (by simp[ag.cat,ag]) rfl (by simp[ag.cat,ag,aP.same]) rfl ⟨by omega,by omega⟩ ?_
 rintro i ⟨hi,g⟩
 by_cases h:i<s.2.1.length
 .have m:s.2.1.getD i cm.bD=s.2.1.getD i (0,[]):=rfl;have n:s.2.1.getD (i-1) cm.bD=s.2.1.getD (i-1) (0,[]):=rfl;have q:=M _ (iD (d:=(0,[])) h);have b:jV k s i=(decide (1<=(s.2.1.getD i (0,[])).1/\(s.2.1.getD i (0,[])).1<=20)&&CE (·.1) (0,[]) s.2.1 i&&(cx k (s.2.1.getD i (0,[])) s.1).isSome):=rfl;have D:=mF (f:=λp:cC=>p.1) (d:=(0,[])) (l:=s.2.1) (i:=i)
  generalize F:s.2.1.getD i (0,[])=p at *;generalize s.2.1.getD (i-1) (0,[])=p' at *
  by_cases c1:1<=p.1/\p.1<=20
  rotate_left
  .refine aD c [(85,ab),(96,ab),(116,ab),(126,ab)] 100 rfl ?_ (AK.ei (b5.zero rfl ?_))
   .simp[-ai,ag,m,h];omega
   .rw[dY h (by grind)];simp[ag]
  cases u:CE (·.1) (0,[]) s.2.1 i with
  |false =>
   have r:i≠0:=by rintro rfl;cases u
   have B:¬p'.1<p.1:=by grind
   refine aD c [(85,ab),(96,ae),(99,ab),(113,ab),(116,ab),(126,ab)] 100 rfl ?_ (AK.ei (b5.zero rfl ?_))
   .simp[-ai,ag,m,n,h,c1,bu];omega
   .rw[dY h (by grind)];simp[ag]
  |true =>
   rw[cj c1,u,dJ,dJ] at b;cases o:(cx k p s.1).isSome with
   |false =>
    by_cases r:i=0
    .subst r;refine aD c [(85,ab),(96,ae),(99,ae),(116,ae),(126,ab)] 100 rfl ?_ (AK.ei (b5.zero rfl ?_))
     .simp[-ai,ag,m,h,c1,cL.list_fn,cL.aH,cP.list_fn,cP.aH,cm.aH,cH.aH,o,q.1];grind
     .rw[dY h (b.trans o)];simp[ag]
    .have B:p'.1<p.1:=by grind
     refine aD c [(85,ab),(96,ae),(99,ab),(113,ae),(116,ae),(126,ab)] 100 rfl ?_ (AK.ei (b5.zero rfl ?_))
     .simp[-ai,ag,m,n,h,c1,bu,cL.list_fn,cL.aH,cP.list_fn,cP.aH,cm.aH,cH.aH,o,q.1];and_intros <;> first|omega|grind
     .rw[dY h (b.trans o)];simp[ag]
   |true =>
    rw[o] at b
    by_cases r:i=0
    .subst r;refine aD c [(85,ab),(96,ae),(99,ae),(116,ae),(126,ae)] 100 rfl ?_ (AK.aQ 1 rfl (by simp[ag.cat,ag]) (by simp[ag.cat,ag,aP.same]) ⟨h,fg g b⟩ (by omega))
     simp[-ai,ag,m,h,c1,bu,cL.list_fn,cL.aH,cP.list_fn,cP.aH,cm.aH,cH.aH,o,q.1];grind
    .have B:p'.1<p.1:=by grind
     refine aD c [(85,ab),(96,ae),(99,ab),(113,ae),(116,ae),(126,ae)] 100 rfl ?_ (AK.aQ (i+1) rfl (by simp[ag.cat,ag]) (by simp[ag.cat,ag,aP.same]) ⟨h,fg g b⟩ (by omega))
     simp[-ai,ag,m,n,h,c1,bu,cL.list_fn,cL.aH,cP.list_fn,cP.aH,cm.aH,cH.aH,o,q.1];and_intros <;> first|omega|grind
 obtain rfl:i=s.2.1.length:=by omega
 refine aD c [(85,ae)] 100 rfl (by simp[ag]) (AK.leaveD rfl rfl ?_)
 rw[cd.2 g,dJ];cases H:ck k
 .exact aD c [(129,ae),(134,ae)] 100 rfl (by simp[ag,H]) (AK.bm rfl (by simp[ag]))
 cases J:jy s.2.2
 .exact aD c [(129,ab),(134,ae)] 100 rfl (by simp[ag,H,J,cH.list_fn,cH.aH]) (AK.bm rfl (by simp[ag]))
 exact aD c [(129,ab),(134,ab)] 100 rfl (by simp[ag,H,J,cH.list_fn,cH.aH]) (AK.bm rfl (by simp[ag];omega))
abbrev tq:dh:=p0 aI Oe (λk s=>dB (gF k s)) λ_ s=>[iS s,s.1.length<=4000000,s.2.1.length<=4000000]
def yS:dG X 48 tq:=.tb λk s h=>CF k s h.1 h.2.1 h.2.2
def iH(n:Int)(a:List Int×Bool) (y:Int):List Int×Bool :=
 if a.2=ab then (if y=n then a else (a.1++[y],ab)) else if n<=y then (if y=n then (a.1++[n],ab) else (a.1++[n,y],ab)) else (a.1++[y],ae)
abbrev pr(n:Int)(l:List Int)(i:Nat):List Int×Bool:=(l.take i).foldl (iH n) ([],ae)
def kT(l:List Int) (n:Int):List Int:=if (l.foldl (iH n) ([],ae)).2=ab then (l.foldl (iH n) ([],ae)).1 else (l.foldl (iH n) ([],ae)).1++[n]
def CG{n:Int}{l:List Int}{i:Nat}(h:i<l.length):pr n l (i+1)=iH n (pr n l i) (l.getD i 0):=by
 grind [bq]
def w9(n:Int)(l:List Int):∀ i,i<=l.length->(pr n l i).1.length+(if (pr n l i).2=ab then 0 else 1)<=i+1
 |0,_=>by simp[pr]
 |i+1,h=>by
  have:=w9 n l i (by omega)
  rw[CG (by omega)]
  generalize pr n l i=a at *;obtain⟨a,b⟩:=a;unfold iH
  grind
def LL(l:List Int) (n:Int):(kT l n).length<=l.length+1:=by
 have:=w9 n l l.length (bg _);simp only[pr,b6] at this;unfold kT;split at this <;> rename_i h
 .rw[bc h];omega
 .rw[aY h];simp;omega
def pj{α:Type}(c:hU α)(l:List α)(x y:α):aP (l.length+1+1) (cO (l.length+1) (cO l.length (c.fn l) λq=>[c.enc x].getD q []) λq=>[c.enc y].getD q []) (c.fn (l++[x,y])):=c.pj l x y
def LM(l:List Int) (n:Int)(r:l.length<=100000000):Ev X 88 [cI.sl l,dI n] [] (cI.sl (kT l n)) []:=by
 refine Ev.bQ Tryz.func88 rfl λq=>?_
 refine aX [(1000002,ab)] 100 rfl av ?_;refine AK.ir 5 3 1 rfl rfl ?_;refine bk rfl av ?_;refine AK.bO 1 (λi=>i<=l.length) (λi:Nat=>[(0,cI.sl l),(1,dI n),(5,.e (.one (.vec 0 1 (pr n l i).1.length (cI.fn (pr n l i).1)))),(6,dB (pr n l i).2),(7,dI i)]) (λi=>[.vec 3 1 (pr n l i).1.length (cI.fn (pr n l i).1)]) (λi=>l.length-i) 0 rfl (by simp[pr,ag.cat,ag,aP.same,aP.nil]) rfl (by simp[pr,ag.cat,ag,aP.same,aP.nil]) rfl (by omega) ?_
 intro i hi;have j:=w9 n l i hi
 by_cases h:i<l.length
 .have c:=CG (n:=n) h;have d:l.getD (i:Int).toNat cI.bD=l.getD i 0:=by rw[bz];rfl
  generalize l.getD i 0=y at *;generalize pr n l i=a at *;obtain⟨a,b⟩:=a;have g:=λy=>cI.cn a y
  have o:=λx y=>cI.pj a x y
  have p:(a.length+1+1)*8<=140737488355328:=by grind
  have fin:∀ a',pr n l (i+1)=a'->True:=λ_ _=>trivial
  have k:l.length-(i+1)<l.length-i:=by omega
  by_cases f:y=n
  .cases b with
   |true =>
    rw[show iH n (a,ab) y=(a,ab) by simp[iH,f]] at c
    refine aX [(12,ab),(34,ae)] 100 rfl ?_ (AK.aQ (i+1) rfl ?_ ?_ h k)
    .simp only[ag,d,f,bu];simp;omega
    .rw[c];simp[ag.cat,ag,aP.same]
    .rw[c];simp[ag.cat,ag,aP.same]
   |false =>
    rw[show iH n (a,ae) y=(a++[n],ab) by simp[iH,f]] at c
    refine aX [(12,ab),(24,ab),(34,ae)] 100 rfl ?_ (AK.aQ (i+1) rfl ?_ ?_ h k)
    .simp only[ag,d,f,bu,show i3.bytes=8 from rfl];simp;omega
    .rw[c];simp only[ag.cat,ag,bP,er,aF,aC];and_intros <;> first|exact aP.same|exact g n|rfl|omega
    .rw[c];simp only[ag.cat,ag,bP,er,aF,aC];and_intros <;> first|exact aP.same|exact g n|rfl|omega
  .cases b with
   |true =>
    rw[show iH n (a,ab) y=(a++[y],ab) by simp[iH,f]] at c
    refine aX [(12,ab),(34,ab)] 100 rfl ?_ (AK.aQ (i+1) rfl ?_ ?_ h k)
    .simp only[ag,d,bu,show i3.bytes=8 from rfl];simp[f];omega
    .rw[c];simp only[ag.cat,ag,d,bP,er,aF,aC];and_intros <;> first|exact aP.same|exact g y|rfl|omega
    .rw[c];simp only[ag.cat,ag,d,bP,er,aF,aC];and_intros <;> first|exact aP.same|exact g y|rfl|omega
   |false =>
    by_cases m:n<=y
    .rw[show iH n (a,ae) y=(a++[n,y],ab) by simp[iH,f,m]] at c
     refine aX [(12,ab),(24,ab),(34,ab)] 100 rfl ?_ (AK.aQ (i+1) rfl ?_ ?_ h k)
     .simp only[ag,d,bu,show i3.bytes=8 from rfl];simp[f,m];omega
     .rw[c];simp only[ag.cat,ag,d,bP,eZ,hZ,aF,aC];and_intros <;> first|exact aP.same|exact o n y|rfl|omega
     .rw[c];simp only[ag.cat,ag,d,bP,eZ,hZ,aF,aC];and_intros <;> first|exact aP.same|exact o n y|rfl|omega
    .rw[show iH n (a,ae) y=(a++[y],ae) by simp[iH,m]] at c
     refine aX [(12,ab),(24,ae),(34,ab)] 100 rfl ?_ (AK.aQ (i+1) rfl ?_ ?_ h k)
     .simp only[ag,d,bu,show i3.bytes=8 from rfl];simp[f,m];omega
     .rw[c];simp only[ag.cat,ag,d,bP,er,aF,aC];and_intros <;> first|exact aP.same|exact g y|rfl|omega
     .rw[c];simp only[ag.cat,ag,d,bP,er,aF,aC];and_intros <;> first|exact aP.same|exact g y|rfl|omega
 .obtain rfl:i=l.length:=by omega
  unfold kT;simp only[pr,b6] at j ⊢;generalize l.foldl (iH n) ([],ae)=a at *;obtain⟨a,b⟩:=a;have g:=cI.cn a n;refine aX [(12,ae)] 100 rfl (by simp[ag]) (AK.leaveD rfl rfl ?_)
  cases b with
  |true=>exact bk rfl (by simp[ag]) (AK.bm rfl (by simp[ag,aP.same]))
  |false =>
   refine bk rfl ?_ (AK.bm rfl ?_)
   .simp only[ag,show i3.bytes=8 from rfl];simp at j ⊢;omega
   .simp only[ag,jE,b9,bP,er];and_intros <;> first|exact g|trivial
abbrev AO:dh:=p0 (aL cI) aI (λl n=>cI.sl (kT l n)) λl _=>[l.length<=100000000]
def EM:dG X 88 AO:=.tb λl n h=>LM l n h
def gG(a:List Int):∀ l:List Int,(l.foldl kT a).length<=a.length+l.length
 |[]=>by simp
 |x::l=>by
  have:=gG (kT a x) l;have:=LL a x
  grind
def tr{b:Type}(f:b->Int->b)(a:b){l:List Int}{j:Nat}(h:j<l.length):(l.take (j+1)).foldl f a=f ((l.take j).foldl f a) (l.getD j 0):=by
 rw[bq h 0,nD];rfl
def fh(l:List gD):List Int:=(cf l).foldl kT []
def l8(l:List gD):(fh l).length<=(cf l).length:=by
 have:=gG [] (cf l)
 rwa [hZ,bt] at this
def xT(s:cC)(r:s.2.length<=4000000)(o:(cf s.2).length<=4000000):Ev X 87 [Ek s] [] (cI.sl (fh s.2)) []:=by
 refine Ev.bQ Tryz.func87 rfl λp=>?_
 have b:bC X [(88,AO)]:=.cons EM .nil;refine aD b [] 100 rfl av ?_;refine AK.bO 1 (λi=>i<=s.2.length) (λi:Nat=>[(1,.e (.one (.ptr 0 0))),(3,cI.sl (fh (s.2.take i))),(4,dI i)]) (λ_=>[Wh s]) (λi=>s.2.length-i) 0 rfl (by simp[ag.cat,ag,aP.nil,fh,cf]) rfl (by simp[ag.cat,ag,aP.same]) rfl (by omega) ?_
 intro i hi
 by_cases h:i<s.2.length
 .have f:s.2.getD i cL.bD=s.2.getD i ([],[]):=rfl;have c:=ss h;have m:=nq s.2 (i+1);have q:=l8 (s.2.take i);have n:fh (s.2.take (i+1))=(s.2.getD i ([],[])).2.foldl kT (fh (s.2.take i)):=by simp only[fh,c,nD]
  rw[c,bP] at m;generalize s.2.getD i ([],[])=x at *;generalize fh (s.2.take i)=a at *;refine aD b [(11,ab)] 100 rfl (by simp[ag,h]) ?_
  refine AK.bO 1 (λj=>j<=x.2.length) (λj:Nat=>[(1,.e (.one (.ptr 0 0))),(3,cI.sl ((x.2.take j).foldl kT a)),(4,dI i),(5,dI j)]) (λ_=>[Wh s]) (λj=>x.2.length-j) 0 rfl (by simp[ag.cat,ag,aP.same]) rfl (by simp[ag.cat,ag,aP.same]) rfl (by omega) ?_
  intro j t
  by_cases k:j<x.2.length
  .have d:x.2.getD j cI.bD=x.2.getD j 0:=rfl;have g:=tr kT a k;have l:=gG a (x.2.take j);rw[List.length_take] at l;generalize (x.2.take j).foldl kT a=a2 at *;have e:=cI.list_fn a2;refine aD b [(22,ab)] 100 rfl ?_ (AK.aQ (j+1) rfl ?_ ?_ k (by omega))
   .simp[-ai,ag,f,d,h,k,e,cI.aH,bu];omega
   .rw[g];simp[-ai,ag.cat,ag,f,d,e,aP.same]
   .simp[ag.cat,ag,aP.same]
  .obtain rfl:j=x.2.length:=by omega
   rw[b6,<-n];refine aD b [(22,ae)] 100 rfl ?_ (AK.leaveD rfl rfl ?_)
   .simp[-ai,ag,f,h]
   refine aD b [] 100 rfl ?_ (AK.aQ (i+1) rfl ?_ ?_ h (by omega))
   .simp[ag,bu];omega
   .simp[ag.cat,ag,aP.same]
   .simp[ag.cat,ag,aP.same]
 .obtain rfl:i=s.2.length:=by omega
  rw[b6];refine aD b [(11,ae)] 100 rfl (by simp[ag]) (AK.leaveD rfl rfl ?_)
  exact aD b [] 100 rfl av (AK.bm rfl (by simp[ag,aP.same]))
abbrev AP:dh:=jX (Hf cL) (λs=>cI.sl (fh s.2)) λs=>[s.2.length<=4000000,(cf s.2).length<=4000000]
def Gm:dG X 87 AP:=.oi λs h=>xT s h.1 h.2
def jz(l:List cC):List Int:=l.flatMap λx=>cf x.2
def fz(l:List cC):List Int:=l.foldl (λout x=>(fh x.2).foldl kT out) []
theorem qO{l:List cC}{i:Nat}(h:i<l.length):jz (l.take (i+1))=jz (l.take i)++cf (l.getD i (0,[])).2:=by
 rw[bq h (0,[])];simp[jz]
def CH(l:List cC)(i:Nat):(jz (l.take i)).length<=(jz l).length:=by
 have h:jz l=jz (l.take i)++jz (l.drop i):=by unfold jz;rw[<-qZ,j1]
 rw[h,bP];omega
def xa{l:List cC}{i:Nat}(h:i<l.length):fz (l.take (i+1))=(fh (l.getD i (0,[])).2).foldl kT (fz (l.take i)):=by
 unfold fz
 grind [bq]
def qb(l:List cC):∀ i,i<=l.length->(fz (l.take i)).length<=(jz (l.take i)).length
 |0,_=>by simp[fz]
 |i+1,h=>by
  have a:=qb l i (by omega)
  have b:=gG (fz (l.take i)) (fh (l.getD i (0,[])).2);have c:=l8 (l.getD i (0,[])).2;rw[xa (by omega),qO (by omega),bP]
  omega
def EN(s:aZ)(k:iS s)(t:s.2.1.length<=4000000)(w:(jz s.2.1).length<=4000000):Ev X 46 [eH s] [] (cI.sl (fz s.2.1)) []:=by
 refine Ev.bQ Tryz.func46 rfl λu=>?_
 have b:bC X [(88,AO),(87,AP)]:=.cons EM (.cons Gm .nil);refine aD b [] 100 rfl av ?_;refine AK.bO 1 (λi=>i<=s.2.1.length) (λi:Nat=>[(1,.e (.one (.ptr 0 0))),(3,cI.sl (fz (s.2.1.take i))),(4,dI i)]) (λ_=>[MZ s]) (λi=>s.2.1.length-i) 0 rfl (by simp[ag.cat,ag,aP.nil,fz]) rfl (by simp[ag.cat,ag,aP.same]) rfl (by omega) ?_
 intro i hi
 by_cases h:i<s.2.1.length
 .have o:s.2.1.getD i cm.bD=s.2.1.getD i (0,[]):=rfl;have r:=k _ (iD (d:=(0,[])) h);have f:=qO h;have p:=CH s.2.1 (i+1);have v:=qb s.2.1 i hi;have k:=xa h;rw[f,bP] at p;generalize s.2.1.getD i (0,[])=x at *;have q:=l8 x.2;generalize fz (s.2.1.take i)=a at *;refine aD b [(12,ab)] 100 rfl ?_ ?_
  .simp[-ai,ag,h,o,cL.list_fn,cL.aH];omega
  have g:s.2.1.getD (i:Int).toNat cm.bD=x:=by rw[bz];exact o
  rw[g,cL.list_fn];refine AK.bO 1 (λj=>j<=(fh x.2).length) (λj:Nat=>[(1,.e (.one (.ptr 0 0))),(3,cI.sl (((fh x.2).take j).foldl kT a)),(4,dI i),(5,cI.sl (fh x.2)),(6,dI j)]) (λ_=>[MZ s]) (λj=>(fh x.2).length-j) 0 rfl (by simp[ag.cat,ag,aP.same]) rfl (by simp[ag.cat,ag,aP.same]) rfl (by omega) ?_
  intro j y;generalize fh x.2=ns at *
  by_cases m:j<ns.length
  .have c:ns.getD j cI.bD=ns.getD j 0:=rfl;have l:=tr kT a m;have n:=gG a (ns.take j);rw[List.length_take] at n;generalize (ns.take j).foldl kT a=a2 at *;have e:=cI.list_fn a2;refine aD b [(24,ab)] 100 rfl ?_ (AK.aQ (j+1) rfl ?_ ?_ m (by omega))
   .simp[-ai,ag,c,m,e,cI.aH,bu];omega
   .rw[l];simp[-ai,ag.cat,ag,c,e,aP.same]
   .simp[ag.cat,ag,aP.same]
  .obtain rfl:j=ns.length:=by omega
   rw[b6,<-k];refine aD b [(24,ae)] 100 rfl (by simp[ag]) (AK.leaveD rfl rfl ?_)
   refine aD b [] 100 rfl ?_ (AK.aQ (i+1) rfl ?_ ?_ h (by omega))
   .simp[ag,bu];omega
   .simp[ag.cat,ag,aP.same]
   .simp[ag.cat,ag,aP.same]
 .obtain rfl:i=s.2.1.length:=by omega
  rw[b6];refine aD b [(12,ae)] 100 rfl (by simp[ag]) (AK.leaveD rfl rfl ?_)
  exact aD b [] 100 rfl av (AK.bm rfl (by simp[ag,aP.same]))
abbrev xb:dh:=jX Oe (λs=>cI.sl (fz s.2.1)) λs=>[iS s,s.2.1.length<=4000000,(jz s.2.1).length<=4000000]
def CI:dG X 46 xb:=.oi λs h=>EN s h.1 h.2.1 h.2.2
end
end Go.AM.R1
namespace Go.AM
def Hr(M:Mem):List ak->List C->Prop
 |[],[]=>True
 |v::vs,c::cs=>Rd M v c/\Hr M vs cs
 |_,_=>False
structure FA (α:Type) where
 enc:α->List C
 dec:List C->Option (α×List Prop×List C)
 ok:∀ {cs a o r},dec cs=aa (a,o,r)->ag o->∀ {M:Mem} {vs:List ak},Hr M vs cs->∃ v1 v2,vs=v1++v2/\Hr M v1 (enc a)/\Hr M v2 r
def Hr.app{M:Mem}:∀ {v1 v2:List ak}{c1 c2:List C},Hr M v1 c1->Hr M v2 c2->Hr M (v1++v2) (c1++c2)
 |[],_,[],_,_,h=>h
 |_::_,_,_::_,_,h1,h2=>⟨h1.1,h1.2.app h2⟩
 |[],_,_::_,_,h,_=>h.elim
 |_::_,_,[],_,h,_=>h.elim
def Hr.one{M:Mem}{vs:List ak}{c:C}{r:List C}(h:Hr M vs (c::r)):∃ v a,vs=v::a/\Rd M v c/\Hr M a r:=by
 cases vs with
 |nil=>exact h.elim
 |cons v vs=>exact⟨v,vs,rfl,h⟩
def fL{α:Type}(c:hU α):FA (List α):=⟨λl=>[.sl ae c.k l.length (c.fn l)],λcs=>match cs with
 |d::r=>match kO c.k (.e (.one (.c d))) with|some (n,es)=>aa (c.list n es,[c.fits n es],r)|none=>af
 |_=>af,λ{cs a o r} h g M vs hr=>by
 split at h
 .split at h
  .rename_i n es he
   cases h;obtain⟨v,b,rfl,f,i⟩:=hr.one;exact⟨[v],b,rfl,⟨c.jR (σ:=[]) (s:=⟨[],M,default,λ_=>True⟩) (v:=v) he g f,av⟩,i⟩
  .cases h
 .cases h⟩
def fP{α d:Type}(A:FA α)(B:FA d):FA (α×d):=⟨λx=>A.enc x.1++B.enc x.2,λcs=>match A.dec cs with
 |some (a,o,r)=>match B.dec r with|some (b,p,q)=>aa ((a,b),kl o p,q)|none=>af
 |none=>af,λ{cs a o r} h c M vs hr=>by
 split at h
 .rename_i i
  split at h
  .rename_i e
   cases h;rw[ag.cat] at c;obtain⟨v1,j,rfl,f,g2⟩:=A.ok i c.1 hr;obtain⟨g,v4,rfl,g3,g4⟩:=B.ok e c.2 g2;exact⟨v1++g,v4,(j5 _ _ _).symm,f.app g3,g4⟩
  .cases h
 .cases h⟩
def Wb:List A->Option (List C)
 |[]=>aa []
 |.c x::r=>match Wb r with|some q=>aa (x::q)|none=>af
 |_=>af
def X3:List C->List A
 |[]=>[]
 |x::r=>.c x::X3 r
def KS{σ:List aV}{s:St}:∀ {cs:List A}{q:List C}{vs:List ak},Wb cs=aa q->dM σ s vs cs->Hr s.M vs q
 |[],q,vs,h,a=>by cases h;cases vs with|nil=>trivial|cons=>exact a.elim
 |.c x::r,q,vs,h,a=>by
  simp only[Wb] at h;split at h
  .rename_i b
   cases h;cases vs with
   |nil=>exact a.elim
   |cons v vs=>exact⟨a.1,KS b a.2⟩
  .cases h
 |.ptr ..::_,_,_,h,_=>by cases h
 |.vec ..::_,_,_,h,_=>by cases h
 |.ref ..::_,_,_,h,_=>by cases h
 |.bp ..::_,_,_,h,_=>by cases h
 |.any::_,_,_,h,_=>by cases h
def KT{σ:List aV}{s:St}:∀ {q:List C}{vs:List ak},Hr s.M vs q->dM σ s vs (X3 q)
 |[],[],_=>trivial
 |_::_,_::_,h=>⟨h.1,KT h.2⟩
 |[],_::_,h=>h.elim
 |_::_,[],h=>h.elim
def X4{α:Type}(F:FA α):Arg α:=⟨λa=>.e (.agg (X3 (F.enc a))),λd=>match d with
 |.e (.agg xs)=>match Wb xs with
  |some cs=>match F.dec cs with|some (a,o,[])=>aa (a,o)|_=>af
  |none=>af
 |_=>af,λ{d a o} h b σ s v r=>by
 split at h
 .split at h
  .rename_i j
   split at h
   .rename_i c
    cases h;obtain⟨vs,rfl,f⟩:=r;obtain⟨v1,g,rfl,i,g2⟩:=F.ok c b (KS j f);cases g with
    |nil=>exact⟨v1,by rw[k6],KT i⟩
    |cons=>exact g2.elim
   .cases h
  .cases h
 .cases h⟩
end Go.AM
namespace Go.AM.R1
section
open Go.Proofs
variable {X:Cx ah}
abbrev cM:=aZ×List Int×List Int
abbrev dy:=Int×cM×(Int×Int×Int×Bs)×List (Int×Int)×List Int
abbrev fSt:FA aZ:=fP (fL cP) (fP (fL cm) (fL cH))
abbrev Yi:FA cM:=fP fSt (fP (fL cI) (fL cI))
abbrev qP{α:Type}(c:hU α)(l:List α):A:=.c (.sl ae c.k l.length (c.fn l))
abbrev Ve(w:cM):List A:=[qP cP w.1.1,qP cm w.1.2.1,qP cH w.1.2.2,qP cI w.2.1,qP cI w.2.2]
abbrev IY(w:cM):D:=.e (.agg (Ve w))
abbrev M3(w:dy):List A:=.c (.int .i64 w.1)::(Ve w.2.1++[.c (.int .i64 w.2.2.1.1),.c (.int .i64 w.2.2.1.2.1),.c (.int .i64 w.2.2.1.2.2.1),.c (.str w.2.2.1.2.2.2),qP cH w.2.2.2.1,qP cI w.2.2.2.2])
abbrev CJ(w:dy):D:=.e (.agg (M3 w))
structure OR (s:aZ):Prop where
 pN:s.1.length<=4000000
 sm:iS s
 sN:s.2.1.length<=4000000
 aN:(jz s.2.1).length<=4000000
def l9(ps:List bw)(l:List Int)(i:Nat):Bool:=(ps.any λp=>p.1==l.getD i 0)&&CE (λx=>x) 0 l i
def fA(k:Int)(w:cM):Bool:=(fz w.1.2.1).all (λn=>w.2.1.contains n)&&(bh w.2.2.length).all (l9 w.1.1 w.2.2)&&gF k w.1
def LN{l:List Int}{p:Int->Bool}:l.all p=(bh l.length).all λi=>p (l.getD i 0):=by
 rw[md,cd,List.all_eq_true]
 grind [List.mem_iff_getElem]
def H4{l:List bw}{p:bw->Bool}{j:Nat}(h:j<l.length):(l.take (j+1)).any p=((l.take j).any p||p (l.getD j (0,[]))):=by
 grind [bq]
abbrev M4(w:cM):aV:=.cells 30 (Ve w)
def CK(k:Int)(w:cM)(m:OR w.1):Ev X 26 [dI k,IY w] [] (dB (fA k w)) []:=by
 refine Ev.bQ Tryz.func26 rfl λy=>?_
 have c:bC X [(46,xb),(47,Cz),(48,tq)]:=.cons CI (.cons Gk (.cons yS .nil));have z:=y.LB 1 rfl 4 rfl;have u:=qb w.1.2.1 _ (bg _);rw[b6] at u;have D:=m.aN;refine aD c [] 100 rfl ?_ ?_
 .simp[ag,cP.list_fn,cP.aH,cm.list_fn,cm.aH,cH.list_fn,cH.aH,m.sm,m.sN,m.aN]
 rw[cm.list_fn];unfold fA;rw[LN];generalize fz w.1.2.1=ms at *;refine AK.bO 1 (λi=>i<=ms.length/\∀ j,j<i->w.2.1.contains (ms.getD j 0)=ab) (λi:Nat=>[(0,dI k),(3,.e (.one (.ptr 0 0))),(5,cI.sl ms),(6,dI i)]) (λ_=>[M4 w]) (λi=>ms.length-i) 0 rfl (by simp[ag.cat,ag,aP.same]) rfl (by simp[ag.cat,ag,aP.same]) rfl ⟨by omega,by omega⟩ ?_
 rintro i ⟨hi,a⟩
 by_cases h:i<ms.length
 .have o:ms.getD i cI.bD=ms.getD i 0:=rfl;cases t:w.2.1.contains (ms.getD i 0) with
  |false =>
   refine aD c [(16,ab),(26,ab)] 100 rfl ?_ (AK.ei (b5.zero rfl ?_))
   .simp[-ai,-List.contains_eq_mem,ag,o,h,t,cI.list_fn,cI.aH]
   .rw[dY h t];simp[ag]
  |true =>
   refine aD c [(16,ab),(26,ae)] 100 rfl ?_ (AK.aQ (i+1) rfl (by simp[ag.cat,ag,aP.same]) (by simp[ag.cat,ag,aP.same]) ⟨h,fg a t⟩ (by omega))
   simp[-ai,-List.contains_eq_mem,ag,o,h,t,cI.list_fn,cI.aH,bu];omega
 obtain rfl:i=ms.length:=by omega
 rw[cd.2 a,dJ];refine aD c [(16,ae)] 100 rfl (by simp[ag]) (AK.leaveD rfl rfl ?_)
 refine aD c [] 100 rfl av ?_;refine AK.bO 1 (λi=>i<=w.2.2.length/\∀ j,j<i->l9 w.1.1 w.2.2 j=ab) (λi:Nat=>[(0,dI k),(3,.e (.one (.ptr 0 0))),(7,dI i)]) (λ_=>[M4 w]) (λi=>w.2.2.length-i) 0 rfl (by simp[ag.cat,ag]) rfl (by simp[ag.cat,ag,aP.same]) rfl ⟨by omega,by omega⟩ ?_
 rintro i ⟨hi,a⟩
 by_cases h:i<w.2.2.length
 .have o:w.2.2.getD i cI.bD=w.2.2.getD i 0:=rfl;have s:w.2.2.getD (i-1) cI.bD=w.2.2.getD (i-1) 0:=rfl;have g:l9 w.1.1 w.2.2 i=((w.1.1.any λp=>p.1==w.2.2.getD i 0)&&CE (λx=>x) 0 w.2.2 i):=rfl
  have A:=mF (f:=λx:Int=>x) (d:=0) (l:=w.2.2) (i:=i)
  generalize w.2.2.getD i 0=n at *;generalize w.2.2.getD (i-1) 0=n' at *;refine aD c [(31,ab)] 100 rfl (by simp[ag,h]) ?_
  refine AK.bO 1 (λj=>j<=w.1.1.length) (λj:Nat=>[(0,dI k),(3,.e (.one (.ptr 0 0))),(7,dI i),(8,dB ((w.1.1.take j).any λp=>p.1==n)),(9,dI j)]) (λ_=>[M4 w]) (λj=>w.1.1.length-j) 0 rfl (by simp[ag.cat,ag]) rfl (by simp[ag.cat,ag,aP.same]) rfl (by omega) ?_
  intro j G
  by_cases r:j<w.1.1.length
  .have E:=m.pN;have B:w.1.1.getD j cP.bD=w.1.1.getD j (0,[]):=rfl;have q:=H4 (p:=λp=>p.1==n) r
   generalize w.1.1.getD j (0,[])=p at *;generalize (w.1.1.take j).any (λp=>p.1==n)=b at *
   cases b with
   |true =>
    refine aD c [(39,ab)] 100 rfl ?_ (AK.aQ (j+1) rfl ?_ ?_ r (by omega))
    .simp[ag,r,bu];omega
    .rw[q];simp[ag.cat,ag]
    .simp[ag.cat,ag,aP.same]
   |false =>
    refine aD c [(39,ab)] 100 rfl ?_ (AK.aQ (j+1) rfl ?_ ?_ r (by omega))
    .simp[-ai,ag,h,r,bu];omega
    .rw[q];simp[-ai,ag.cat,ag,B,o]
    .simp[ag.cat,ag,aP.same]
  obtain rfl:j=w.1.1.length:=by omega
  rw[b6];refine aD c [(39,ae)] 100 rfl (by simp[ag]) (AK.leaveD rfl rfl ?_)
  cases v:w.1.1.any (λp=>p.1==n) with
  |false =>
   rw[v,pI] at g;refine aD c [(77,ab)] 100 rfl (by simp[ag]) (AK.ei (b5.zero rfl ?_))
   rw[dY h g];simp[ag]
  |true =>
   rw[v,dJ] at g
   by_cases C:i=0
   .subst C;refine aD c [(63,ae),(77,ae)] 100 rfl ?_ (AK.aQ 1 rfl (by simp[ag.cat,ag]) (by simp[ag.cat,ag,aP.same]) ⟨h,fg a (by rw[g];rfl)⟩ (by omega))
    simp[ag,bu]
   by_cases F:n'<n
   .refine aD c [(63,ab),(75,ae),(77,ae)] 100 rfl ?_ (AK.aQ (i+1) rfl (by simp[ag.cat,ag]) (by simp[ag.cat,ag,aP.same]) ⟨h,fg a (by grind)⟩ (by omega))
    simp[-ai,ag,o,s,h,bu];omega
   .refine aD c [(63,ab),(75,ab),(77,ab)] 100 rfl ?_ (AK.ei (b5.zero rfl ?_))
    .simp[-ai,ag,o,s,h,bu];omega
    .rw[dY h (by grind)];simp[ag]
 obtain rfl:i=w.2.2.length:=by omega
 rw[cd.2 a,dJ];refine aD c [(31,ae)] 100 rfl (by simp[ag]) (AK.leaveD rfl rfl ?_)
 refine aD c [] 100 rfl ?_ (AK.bm rfl ?_)
 .simp[ag,cP.list_fn,cP.aH,cm.list_fn,cm.aH,cH.list_fn,cH.aH,m.sm,m.sN,m.pN]
 .simp[ag,cP.list_fn,cm.list_fn,cH.list_fn]
abbrev tu:dh:=p0 aI (X4 Yi) (λk w=>dB (fA k w)) λ_ w=>[OR w.1]
def yT:dG X 26 tu:=.tb λk w h=>CK k w h
end
def yZ{l:List Int}:∀ {k:Nat},(jW l k).length=k->∀ i,1<=i->i<k->l.getD i 0≠l.getD (i-1) 0
 |0,_,i,_,h=>by omega
 |k+1,h,i,c,d=>by
  have f:=sx l k;rw[jW] at h;split at h
  .omega
  .rename_i b
   simp only[bP,er] at h
   by_cases e:i=k
   .subst e;exactλa=>b ⟨by omega,a⟩
   .exact yZ (k:=k) (by omega) i c (by omega)
def AX(l:List Int):(mG l).Pairwise λx y=>x<=y:=by
 have:=List.pairwise_mergeSort (le:=λx y:Int=>decide (x<=y)) (λa b c d e=>by simp at *;omega) (λa b=>by simp;omega) l
 exact this.imp λh=>by simpa using h
def xf(l:List Int):(mG l).Perm l:=List.mergeSort_perm _ _
def AR(l:List Int):(dL (mG l)).length=l.length↔l.Nodup:=by
 rw[<-gH l,<-(xf l).nodup_iff];have d:=AX l;generalize mG l=s at *;have b:∀ {i:Nat} (h:i<s.length),s.getD i 0=s[i]:=λ{i} h=>by rw[ai,br h];rfl
 constructor
 .intro h;have c:=yZ h;refine List.Pairwise.imp (R:=λx y=>x<y) (λh e=>by omega) (kV.2 λi j hi hj Wi=>?_)
  have a:=kV.1 d;have f:=c j (by omega) hj
  rw[b hj,b (by omega)] at f
  have g:=a (j-1) j (by omega) hj (by omega)
  by_cases e:i=j-1
  .subst e;omega
  .have:=a i (j-1) hi (by omega) (by omega);omega
 .intro h;unfold dL;rw[nt (bg _),b6];intro i c a e;rw[b a,b (by omega)] at e
  have:=(kV.1 h) (i-1) i (by omega) a (by omega)
  exact this e.symm
def y0(n m:Int):∀ (l:List Int)(a:List Int)(b:Bool),(b=ab->n∈a) ->
  ((m∈(l.foldl (iH n) (a,b)).1∨(m=n/\(l.foldl (iH n) (a,b)).2=ae))↔((m∈a∨(m=n/\b=ae))∨m∈l))
 |[],a,b,_=>by simp
 |y::l,a,b,h=>by
  rw[jl];have one:∀ a' b',iH n (a,b) y=(a',b')->(b'=ab->n∈a')/\((m∈a'∨(m=n/\b'=ae))↔((m∈a∨(m=n/\b=ae))∨m=y)):=λa' b' e=>by
   unfold iH at e
   grind
  cases f:iH n (a,b) y with
  |mk a' b' =>
   obtain⟨c,d⟩:=one a' b' f;rw[y0 n m l a' b' c,d,e9,or_assoc]
def LV{l:List Int}{n m:Int}:m∈kT l n↔m∈l∨m=n:=by
 have:=y0 n m l [] ae (by simp)
 unfold kT
 grind
def tw{m:Int}:∀ {l a:List Int},m∈l.foldl kT a↔m∈a∨m∈l
 |[],a=>by simp
 |x::l,a=>by rw[jl,tw,LV,e9,or_assoc]
def EV{l:List gD}{m:Int}:m∈fh l↔m∈cf l:=by unfold fh;rw[tw];simp
def y3{m:Int}:∀ {l:List cC}{a:List Int},m∈l.foldl (λout x=>(fh x.2).foldl kT out) a↔m∈a∨∃ x∈l,m∈cf x.2
 |[],a=>by simp
 |x::l,a=>by
  rw[jl,y3,tw,EV,or_assoc];simp
def qc{l:List cC}{m:Int}:m∈fz l↔∃ x∈l,m∈cf x.2:=by unfold fz;rw[y3];simp
def CQ{l:List Int}{m:Int}:∀ {j:Nat},j<=l.length->(m∈jW l j↔m∈l.take j)
 |0,_=>by simp[jW]
 |j+1,h=>by
  have c:=CQ (l:=l) (m:=m) (j:=j) (by omega)
  rw[jW,bq (by omega) 0]
  split
  .rename_i b
   rw[c,gA]
   constructor
   .exact .inl
   .rintro(a|a)
    .exact a
    .simp only[kX] at a;subst a;rw[b.2,ai,br (by omega)]
     exact lM.2 ⟨j-1,by simp;omega,by simp⟩
  grind
def xg{x:cC}{m:Int}:m∈gX x↔m∈cf x.2:=by
 unfold gX dL;rw[CQ (bg _),b6];exact(xf _).mem_iff
def Ig{l:List cC}{p:Int->Bool}:(fz l).all p=(bh l.length).all λi=>!(gX (l.getD i (0,[]))).any λn=>!p n:=by
 rw[md,List.all_eq_true,cd]
 constructor
 .intro h i hi;rw[ji,List.any_eq_false];intro n a;have:=h n (qc.2 ⟨_,iD hi,xg.1 a⟩);simp[this]
 .intro h n a;obtain⟨x,d,c⟩:=qc.1 a;obtain⟨i,hi,rfl⟩:=lM.1 d;have b:=h i hi;rw[ai,br hi,fI,ji,List.any_eq_false] at b;simpa using b n (xg.2 c)
def vh{α:Type}{l:List α}{i:Nat}(h:i<l.length)(d:α):l.getD i d=l[i]:=by grind
def vi{α:Type}{f:α->Int}{d:α}{l:List α}:(∀ i,i<l.length->CE f d l i=ab)↔l.Pairwise λx y=>f x<f y:=by
 constructor
 .intro h;have key:∀ n i j (hi:i<l.length) (a:j<l.length),j=i+n->0<n->f l[i]<f l[j]:=by
   intro n
   induction n with
   |zero=>grind
   |succ n g =>
    intro i j hi a b _;have c:=h j a;rw[mF (by omega),decide_eq_true_iff,vh (by omega),vh a] at c
    by_cases e:n=0
    .subst e
     grind
    grind
  exact kV.2 λi j hi a b=>key (j-i) i j hi a (by omega) (by omega)
 .intro h i hi
  by_cases e:i=0
  .subst e;rfl
  .rw[mF e,decide_eq_true_iff,vh (by omega),vh hi]
   exact(kV.1 h) (i-1) i (by omega) hi (by omega)
def qd{α:Type}{l:List α}{p:α->Bool}{d:α}:(∀ i,i<l.length->p (l.getD i d)=ab)↔∀ x∈l,p x=ab:=by
 grind [List.mem_iff_getElem]
structure Gp (k:Int)(p:bw):Prop where
 no:1<=p.1/\p.1<=99
 key:ck k=ab
 len:1<=p.2.length/\p.2.length<=4
 rt:∀ x∈p.2,right k x=ab
 CE:p.2.Pairwise λx y=>x.1<y.1
def xh{k:Int}{p:bw}:jo k p=ab↔Gp k p:=by
 rw[pq];simp only[bL,ba,cd];have e:(∀ i,i<p.2.length->iG k p i=ab)↔(∀ x∈p.2,right k x=ab)/\p.2.Pairwise λx y=>x.1<y.1:=by
  rw[<-qd (d:=(0,[])),<-vi (f:=λx:cA=>x.1) (d:=(0,[]))]
  constructor
  .intro h;exact⟨λi hi=>by have:=h i hi;simp only[iG,bL] at this;exact this.1,λi hi=>by have:=h i hi;simp only[iG,bL] at this;exact this.2⟩
  .intro h i hi;simp only[iG,bL];exact⟨h.1 i hi,h.2 i hi⟩
 rw[e]
 constructor
 .rintro⟨⟨⟨j,a⟩,b⟩,c,g⟩;exact⟨j,a,b,c,g⟩
 .rintro⟨j,a,b,c,g⟩;grind
structure tz (k:Int)(s:aZ):Prop where
 pk:∀ p∈s.1,Gp k p
 pa:s.1.Pairwise λp q=>p.1<q.1
 nd:(bY s.1).Nodup
 sn:∀ x∈s.2.1,(1<=x.1/\x.1<=20)/\(cx k x s.1).isSome=ab
 sa:s.2.1.Pairwise λx y=>x.1<y.1
 key:ck k=ab
 log:jy s.2.2=ab
 len:s.1.length<=20
def CR{k:Int}{s:aZ}:gF k s=ab↔tz k s:=by
 unfold gF;simp only[bL,ba,cd];have r:(∀ i,i<s.1.length->l7 k s.1 i=ab)↔(∀ p∈s.1,Gp k p)/\s.1.Pairwise λp q=>p.1<q.1:=by
  rw[<-vi (f:=λp:bw=>p.1) (d:=(0,[]))]
  have:(∀ p∈s.1,Gp k p)↔∀ p∈s.1,jo k p=ab:=⟨λh p b=>xh.2 (h p b),λh p b=>xh.1 (h p b)⟩
  rw[this,<-qd (d:=(0,[]))]
  constructor
  .intro h;exact⟨λi hi=>by have:=h i hi;simp only[l7,bL] at this;exact this.1,λi hi=>by have:=h i hi;simp only[l7,bL] at this;exact this.2⟩
  .intro h i hi;simp only[l7,bL]
   grind
 have o:(∀ i,i<s.2.1.length->jV k s i=ab)↔(∀ x∈s.2.1,(1<=x.1/\x.1<=20)/\(cx k x s.1).isSome=ab)/\s.2.1.Pairwise λx y=>x.1<y.1:=by
  rw[<-vi (f:=λp:cC=>p.1) (d:=(0,[]))]
  have:(∀ x∈s.2.1,(1<=x.1/\x.1<=20)/\(cx k x s.1).isSome=ab)↔∀ x∈s.2.1,(decide (1<=x.1/\x.1<=20)&&(cx k x s.1).isSome)=ab:=by
   grind
  rw[this,<-qd (d:=(0,[]))]
  constructor
  .intro h;exact⟨λi hi=>by have:=h i hi;simp only[jV,bL] at this ⊢;grind,λi hi=>by have:=h i hi;simp only[jV,bL] at this;exact this.1.2⟩
  .intro h i hi;have a:=h.1 i hi;simp only[jV,bL] at a ⊢
   grind
 rw[r,o]
 constructor
 .rintro⟨⟨⟨⟨⟨⟨a,g⟩,l⟩,m,n⟩,e⟩,j⟩,c⟩;exact⟨a,g,l,m,n,e,j,c⟩
 .rintro⟨a,g,l,m,n,e,j,c⟩;grind
structure LW (k:Int)(w:cM):Prop extends tz k w.1 where
 mk':∀ x∈w.1.2.1,∀ n∈cf x.2,n∈w.2.1
 lp:∀ n∈w.2.2,∃ p∈w.1.1,p.1=n
 la:w.2.2.Pairwise λx y=>x<y
def uj{k:Int}{w:cM}:fA k w=ab↔LW k w:=by
 unfold fA;simp only[bL,CR,cd];have m:(fz w.1.2.1).all (λn=>w.2.1.contains n)=ab↔∀ x∈w.1.2.1,∀ n∈cf x.2,n∈w.2.1:=by
  rw[List.all_eq_true]
  constructor
  .intro h x j n a;simpa using h n (qc.2 ⟨x,j,a⟩)
  .intro h n a;obtain⟨x,j,a⟩:=qc.1 a
   grind
 have l:(∀ i,i<w.2.2.length->l9 w.1.1 w.2.2 i=ab)↔(∀ n∈w.2.2,∃ p∈w.1.1,p.1=n)/\w.2.2.Pairwise λx y=>x<y:=by
  rw[<-vi (f:=λn:Int=>n) (d:=0)]
  have:(∀ n∈w.2.2,∃ p∈w.1.1,p.1=n)↔∀ n∈w.2.2,(w.1.1.any λp=>p.1==n)=ab:=by simp
  rw[this,<-qd (d:=0)]
  constructor
  .intro h;exact⟨λi hi=>by have:=h i hi;simp only[l9,bL] at this;exact this.1,λi hi=>by have:=h i hi;simp only[l9,bL] at this;exact this.2⟩
  .intro h i hi;simp only[l9,bL]
   grind
 rw[m,l]
 constructor
 .rintro⟨⟨g,b,c⟩,e⟩;exact⟨e,g,b,c⟩
 .rintro⟨e,g,b,c⟩;grind
def ll(no:Int)(ms:List Int)(p:bw):bw:=if p.1=no then jc p ms else p
def jq(no:Int)(ms:List Int)(ps:List bw):List bw:=(ps.map (ll no ms)).filter λp=>!p.2.isEmpty
def AY(w:cM):cM:=match w.2.2 with
 |[]=>w
 |no::r=>((jq no w.2.1 w.1.1,w.1.2),w.2.1,r)
theorem y4{no:Int}{ms:List Int}{p:bw}:(ll no ms p).1=p.1:=by unfold ll jc;split <;> rfl
theorem EW{no:Int}{ms:List Int}{p:bw}:List.Sublist (ll no ms p).2 p.2:=by unfold ll jc;split <;> simp
def EX{no:Int}{ms:List Int}{ps:List bw}{q:bw}(h:q∈jq no ms ps):∃ p∈ps,q=ll no ms p/\q.2≠[]:=by
 unfold jq at h
 grind
abbrev AU(l:List bA):Prop:=l.Pairwise λa b=>bl a.1 b.1=ab
def xd{t:List bA}(h:dj t=ab):AU t:=by
 simp only[dj,bL] at h;have a:=cd.1 h.1;rw[AU,kV];intro i j hi hj Wi;rw[fileAt hi,fileAt hj];refine U8 (t:=t) (i:=j) (λk c b=>?_) i Wi
 have:=a k (by omega)
 simp only[gp,bL,mK,gi] at this;exact this.1.2.resolve_left (by omega)
def uh{t:List bA}:dj t=ab↔(∀ f∈t,dr f.1=ab/\dX f.2=ab)/\AU t/\t.Pairwise (λa b=>clash a.1 b.1=ae)/\t.length<=6:=by
 constructor
 .intro h;have l:=xd h;simp only[dj,bL,ba] at h;have c:=cd.1 h.1;refine⟨λf k=>?_,l,?_,h.2⟩
  .obtain⟨i,hi,rfl⟩:=dT k;have:=c i hi;simp only[gp,bL] at this;rw[fileAt hi];exact⟨this.1.1.1,this.1.1.2⟩
  .rw[kV];intro i j hi hj Wi;have:=c j hj;simp only[gp,bL] at this;have:=cd.1 this.2 i Wi;rw[fileAt hi,fileAt hj];simpa using this
 .rintro⟨o,g,m,n⟩;simp only[dj,bL,ba];refine⟨cd.2 λi hi=>?_,n⟩
  have d:=o _ (oK hi);rw[fileAt hi] at d;simp only[gp,bL,mK,gi];refine⟨⟨d,?_⟩,cd.2 λj hj=>?_⟩
  .by_cases e:i=0
   .exact .inl e
   .right
    have:=kV.1 g (i-1) i (by omega) hi (by omega)
    rw[fileAt (by omega),fileAt hi] at this
    exact this
  .have:=kV.1 m j i (by omega) hi hj
   rw[fileAt (by omega),fileAt hi] at this
   simp[this]
section
open Go.Proofs
variable {X:Cx ah}
theorem Cp{s r:Bs}(h:b7 s=ab)(a:∀ b∈r,b∈s):b7 r=ab:=by
 unfold b7 at h ⊢
 grind
def wT{t:Bs}(b:b7 t=ab):∀ k f,∀ p∈ff t k f,bH p=ab
 |0,_,p,a=>by simp[ff] at a
 |k+1,f,p,a=>by
  simp only[ff] at a;split at a
  .rename_i h
   have c:=nh t f h;rcases e9.1 a with rfl|a
   .have d:((t.drop f).take (cutAt t f-f)).length=cutAt t f-f:=by grind
    simp only[bH,bL,ba]
    grind [Cp]
   .exact wT b k _ p a
  grind
def tj{t:Bs}(a:b7 t=ab):∀ p∈pieces t,bH p=ab:=wT a _ _
def tX(t:Bs):∀ k f,(ff t k f).length<=k
 |0,_=>bg _
 |k+1,f=>by
  simp only[ff];split
  .have:=tX t k (cutAt t f);grind
  .simp
def n5(t:Bs):(pieces t).length<=t.length:=tX t _ _
def ko(t:List bA):List Bs:=t.flatMap λf=>pieces f.2
def HJ{t:List bA}{i:Nat}(h:i<t.length):ko (t.take (i+1))=ko (t.take i)++pieces (t.getD i ([],[])).2:=by
 rw[bq h ([],[])];simp[ko]
def OE(t:List bA)(i:Nat):(ko (t.take i)).length<=(ko t).length:=by
 have h:ko t=ko (t.take i)++ko (t.drop i):=by
  unfold ko
  grind [List.take_append_drop]
 grind
def yE(k:Int)(l:List di)(ps:List Bs):∀ a:List Bs,(ps.foldl (nk k l) a).length<=a.length+ps.length:=by
 induction ps with
 |nil=>grind
 |cons p r b =>
  intro a;have c:=b (nk k l a p);have d:(nk k l a p).length<=a.length+1:=by unfold nk;split <;> simp
  grind
abbrev Lq:dh:=p0 (aL oC) aI (λl n=>dI (tT l n)) λl _=>[l.length<=4000000]
def R0:dG X 199 Lq:=.tb λl n h=>K5 l n h
abbrev P6:dh:=p0 (aL cS) aS (λl p=>dB (l.contains p)) λl _=>[l.length<=4000000]
def UW:dG X 200 P6:=.tb λl p h=>Ow l p h
abbrev dV0(a:List Bs):D:=.e (.one (.vec 0 1 a.length (cS.fn a)))
structure wO (t:List bA):Prop where
 len:t.length<=4000000
 AB:∀ f∈t,b7 f.2=ab/\f.2.length<=4000000
 all:(ko t).length<=100000
def Lh(k:Int)(t:List bA)(l:List di)(u:ck k=ab)(o:wO t)(C:l.length<=4000000):Ev X 183 [dI k,cF.sl t,oC.sl l] [] (cS.sl (jT k t l)) []:=by
 refine Ev.bQ Tryz.func183 rfl λB=>?_
 have c:bC X [(160,Gc),(181,AF),(199,Lq),(200,P6)]:=.cons Lc (.cons Az (.cons R0 (.cons UW .nil)));refine aD c [(1000002,ab)] 200 rfl av ?_;refine AK.ir 7 9 1 rfl rfl ?_;refine aD c [] 200 rfl av ?_;refine AK.bO 1 (λi=>i<=t.length) (λi:Nat=>[(0,dI k),(1,cF.sl t),(2,oC.sl l),(7,dV0 ((ko (t.take i)).foldl (nk k l) [])),(8,dI i)]) (λi=>[.vec 9 1 ((ko (t.take i)).foldl (nk k l) []).length (cS.fn ((ko (t.take i)).foldl (nk k l) []))]) (λi=>t.length-i) 0 rfl ?_ rfl ?_ rfl (by omega) ?_
 .simp[ag.cat,ag,aP.same,aP.nil,ko]
 .simp[ag.cat,ag,aP.same,aP.nil,ko]
 intro i hi
 by_cases h:i<t.length
 .have y:t.getD (i:Int).toNat cF.bD=t.getD i ([],[]):=by grind
  have m:t.getD i ([],[])∈t:=by grind
  obtain⟨x,E⟩:=o.AB _ m;have d:=HJ h;have r:=OE t (i+1);have w:=o.all;have A:=o.len;have q:=tj x;generalize t.getD i ([],[])=f at *;rw[d,bP] at r;refine aD c [(15,ab)] 200 rfl ?_ ?_
  .simp only[ag,y,x,ba,aF,aC];and_intros <;> omega
  rw[y];refine AK.bO 1 (λj=>j<=(pieces f.2).length) (λj:Nat=>[(0,dI k),(1,cF.sl t),(2,oC.sl l),(7,dV0 ((ko (t.take i)++(pieces f.2).take j).foldl (nk k l) [])),(8,dI i),(9,cS.sl (pieces f.2)),(10,dI j)]) (λj=>[.vec 9 1 ((ko (t.take i)++(pieces f.2).take j).foldl (nk k l) []).length (cS.fn ((ko (t.take i)++(pieces f.2).take j).foldl (nk k l) []))]) (λj=>(pieces f.2).length-j) 0 rfl ?_ rfl ?_ rfl (by omega) ?_
  .simp[ag.cat,ag,aP.same]
  .simp[ag.cat,ag,aP.same]
  intro j F;have s:=yE k l (ko (t.take i)++(pieces f.2).take j) [];simp only[hZ,bP,List.length_take] at s
  by_cases D:j<(pieces f.2).length
  .have b:(pieces f.2).getD (j:Int).toNat cS.bD=(pieces f.2).getD j []:=by grind
   have g:bH ((pieces f.2).getD j [])=ab:=q _ (by grind)
   have a:(ko (t.take i)++(pieces f.2).take (j+1)).foldl (nk k l) []=nk k l ((ko (t.take i)++(pieces f.2).take j).foldl (nk k l) []) ((pieces f.2).getD j []):=by
    grind [bq]
   generalize (ko (t.take i)++(pieces f.2).take j).foldl (nk k l) []=out at *;generalize (pieces f.2).getD j []=p at *;have v:=cS.cn out p
   by_cases e:tT l (iZ k p)=0
   .cases z:out.contains p with
    |true =>
     rw[nk,aY (by grind)] at a
     refine aD c [(27,ab),(38,ab),(45,ab)] 200 rfl ?_ (AK.aQ (j+1) rfl ?_ ?_ ?_ ?_)
     .simp only[ag,b,u,g,e,z,bu,cS.list_fn,oC.list_fn,dH,ba,aF,aC];and_intros <;> first|exact cS.aH _|exact oC.aH _|omega
     .rw[a];simp[ag.cat,ag,aP.same]
     .rw[a];simp[ag.cat,ag,aP.same]
     .grind
     .omega
    |false =>
     rw[nk,bc (by grind)] at a
     refine aD c [(27,ab),(38,ab),(45,ae)] 200 rfl ?_ (AK.aQ (j+1) rfl ?_ ?_ ?_ ?_)
     .simp only[ag,b,u,g,e,z,bu,show i9.bytes=16 from rfl,cS.list_fn,oC.list_fn,dH,ba,aF,aC];and_intros <;> first|exact cS.aH _|exact oC.aH _|omega
     .rw[a];simp only[ag.cat,ag,b,bP,eZ,hZ,aF,aC]
      and_intros <;> first|exactλ_ _=>rfl|exact v|rfl|omega
     .rw[a];simp only[ag.cat,ag,b,bP,eZ,hZ,aF,aC]
      and_intros <;> first|exact v|rfl|omega
     .grind
     .omega
   .rw[nk,aY (by grind)] at a
    refine aD c [(27,ab),(38,ae)] 200 rfl ?_ (AK.aQ (j+1) rfl ?_ ?_ ?_ ?_)
    .simp only[ag,b,u,g,bu,oC.list_fn,dm,cT,e,nC,ba,aF,aC];and_intros <;> first|exact oC.aH _|omega
    .rw[a];simp[ag.cat,ag,aP.same]
    .rw[a];simp[ag.cat,ag,aP.same]
    .grind
    .omega
  .have n:j=(pieces f.2).length:=by omega
   refine aD c [(27,ae)] 200 rfl (by simp only[ag,bJ];omega) (AK.leaveD rfl rfl ?_)
   refine aD c [] 200 rfl ?_ (AK.aQ (i+1) rfl ?_ ?_ ?_ ?_)
   .simp only[ag,bu];omega
   .rw[d,n,b6];simp[ag.cat,ag,aP.same]
   .rw[d,n,b6];simp[ag.cat,ag,aP.same]
   .grind
   .omega
 .obtain rfl:i=t.length:=by omega
  rw[b6];refine aD c [(15,ae)] 200 rfl (by simp[ag]) (AK.leaveD rfl rfl ?_)
  refine aD c [] 200 rfl av (AK.bm rfl ?_);simp[ag,ag.cat,aP.same,jT,ko]
abbrev pn(k:Int)(ps:List Bs):List Int:=ps.map (iZ k)
abbrev tm(k:Int)(t:List bA):List gD:=t.map (yO k)
abbrev P7(no:Int)(ls:List gD):List aV:=[.cells 64 [.c (.int .i64 0),.c (.sl ab 0 0 λ_=>[])],.cells 64 [.c (.int .i64 no),.vec 2 2 ls.length (cL.fn ls)],.vec 92 2 ls.length (cL.fn ls)]
def OB(no k:Int)(t:List bA)(z:ck k=ab)(q:wO t):Ev X 186 [dI no,dI k,cF.sl t] [] (Ek (kn no k t)) []:=by
 refine Ev.iu tok Tryz.func186 rfl rfl rfl λA=>?_
 have a:bC X [(160,Gc),(181,AF)]:=.cons Lc (.cons Az .nil);refine aD a [(1000002,ab)] 200 rfl av ?_;refine AK.gj 1 1 92 2 (cL.fn []) rfl rfl ?_;refine aD a [] 200 rfl av ?_;refine AK.bO 3 (λi=>i<=t.length) (λi:Nat=>[(1,dI k),(2,cF.sl t),(6,.e (.one (.ptr 0 0))),(7,.e (.one (.ptr 1 0))),(8,dI i)]) (λi=>P7 no (tm k (t.take i))) (λi=>t.length-i) 0 rfl ?_ rfl ?_ rfl (by omega) ?_
 .simp[ag.cat,ag,aP.same]
 .simp[ag.cat,ag,aP.same,aP.nil]
 intro i hi
 by_cases h:i<t.length
 .have n:t.getD (i:Int).toNat cF.bD=t.getD i ([],[]):=by rw[bz];rfl
  have d:t.getD i ([],[])∈t:=by grind
  obtain⟨r,B⟩:=q.AB _ d;have v:=q.len;have m:=tj r;have x:=n5 (t.getD i ([],[])).2;have g:tm k (t.take (i+1))=tm k (t.take i)++[yO k (t.getD i ([],[]))]:=by
   rw[bq h ([],[]),tm,rh];rfl
  have y:(tm k (t.take i)).length=i:=by simp;omega
  generalize t.getD i ([],[])=f at *;generalize tm k (t.take i)=ls at *;refine aD a [(18,ab),(1000007,ab)] 200 rfl ?_ ?_
  .simp only[ag,n,r,ba,aF,aC];and_intros <;> omega
  rw[n];refine AK.ir 10 3 1 rfl rfl ?_;refine aD a [] 200 rfl av ?_;refine AK.bO 4 (λj=>j<=(pieces f.2).length) (λj:Nat=>[(1,dI k),(2,cF.sl t),(6,.e (.one (.ptr 0 0))),(7,.e (.one (.ptr 1 0))),(8,dI i),(9,cS.sl (pieces f.2)),(10,.e (.one (.vec 3 1 j (cI.fn (pn k ((pieces f.2).take j)))))),(11,dI j)]) (λj=>P7 no ls++[.vec 3 1 j (cI.fn (pn k ((pieces f.2).take j)))]) (λj=>(pieces f.2).length-j) 0 rfl ?_ rfl ?_ rfl (by omega) ?_
  .simp[ag.cat,ag,aP.same,aP.nil]
  .simp[ag.cat,ag,aP.same,aP.nil]
  intro j s
  by_cases u:j<(pieces f.2).length
  .have b:(pieces f.2).getD (j:Int).toNat cS.bD=(pieces f.2).getD j []:=by rw[bz];rfl
   have o:bH ((pieces f.2).getD j [])=ab:=m _ (by grind)
   have c:=cI.cn (pn k ((pieces f.2).take j)) (iZ k ((pieces f.2).getD j []));rw[show (pn k ((pieces f.2).take j)).length=j by simp;omega,show pn k ((pieces f.2).take j)++[iZ k ((pieces f.2).getD j [])]=pn k ((pieces f.2).take (j+1)) by rw[bq u [],pn,pn,rh];rfl] at c
   refine aD a [(31,ab)] 200 rfl ?_ (AK.aQ (j+1) rfl ?_ ?_ ?_ ?_)
   .simp only[ag,b,z,o,bu,show i3.bytes=8 from rfl,ba,aF,aC];and_intros <;> omega
   .simp only[ag.cat,ag,b,aF,aC]
    and_intros <;> first|exactλ_ _=>rfl|exact c|rfl|omega
   .simp only[ag.cat,ag,b,aF,aC]
    and_intros <;> first|exactλ_ _=>rfl|exact c|rfl|omega
   .show j+1<=_;omega
   .omega
  .have l:j=(pieces f.2).length:=by omega
   rw[l,b6];have c:=cL.cn ls (yO k f);have p:ls.length+1=(ls++[yO k f]).length:=by simp
   have w:cL.enc (yO k f)=[C.str f.1,C.sl ae 1 (pieces f.2).length (cI.fn (pn k (pieces f.2)))]:=by
    show [C.str f.1,C.sl ae 1 (pn k (pieces f.2)).length (cI.fn (pn k (pieces f.2)))]=_
    grind
   rw[w,<-g] at c;rw[<-g] at p;refine aD a [(31,ae)] 200 rfl (by simp only[ag,bJ];omega) (AK.leaveD rfl rfl ?_)
   refine aD a [] 200 rfl ?_ (AK.aQ (i+1) rfl ?_ ?_ ?_ ?_)
   .simp only[ag,bu,show i92.bytes=40 from rfl,aF,aC];and_intros <;> omega
   .simp[ag.cat,ag,aP.same]
   .simp only[ag.cat,ag,n,aF,aC]
    and_intros <;> first|exact aP.same|exact c|exact p|rfl
   .show i+1<=_;omega
   .omega
 .obtain rfl:i=t.length:=by omega
  rw[b6];refine aD a [(18,ae)] 200 rfl (by simp[ag]) (AK.leaveD rfl rfl ?_)
  refine aD a [] 200 rfl av ?_;refine AK.dA () [] rfl rfl rfl rfl rfl rfl rfl rfl ?_ rfl rfl rfl rfl (λj s=>absurd s (by simp))
  simp[ag,ag.cat,aP.same,kn]
def gn(f g:Nat->List C):cO 0 f g=g:=by funext i;simp[cO]
abbrev HA(s:aZ):aV:=.cells 27 [.c (.sl ae 2 s.1.length (cP.fn s.1)),.c (.sl ae 2 s.2.1.length (cm.fn s.2.1)),.c (.sl ae 2 s.2.2.length (cH.fn s.2.2))]
abbrev R2(s:aZ)(i:Nat)(p:List bw)(j:Nat)(q:List cC):List aV:=[HA s,.cells 27 [dk,dk,dk],.buf 85 2 i (cP.fn p),.buf 64 2 j (cm.fn q),.buf 90 2 s.2.2.length (cH.fn s.2.2),.cells 27 [.bp 2 (.sl i 2 0 i),.bp 3 (.sl j 2 0 j),.bp 4 (.sl s.2.2.length 2 0 s.2.2.length)]]
def HF(s:aZ)(r:s.1.length<=4000000)(d:∀ p∈s.1,p.2.length<=4000000)(o:s.2.1.length<=4000000)(f:iS s)(t:s.2.2.length<=4000000) :
  Ev X 38 [eH s] [] (.e (.agg [.bp 0 (.sl s.1.length 2 0 s.1.length),.bp 1 (.sl s.2.1.length 2 0 s.2.1.length),.bp 2 (.sl s.2.2.length 2 0 s.2.2.length)])) [.buf 85 2 s.1.length (cP.fn s.1),.buf 64 2 s.2.1.length (cm.fn s.2.1),.buf 90 2 s.2.2.length (cH.fn s.2.2)]:=by
 refine Ev.iu tok Tryz.func38 rfl rfl rfl λn=>?_
 refine aX [(1000001,ab)] 200 rfl av ?_;refine AK.region ?_;refine aX [] 5 rfl av ?_;refine AK.wh 9 85 2 (cP.fn []) rfl ?_;refine AK.wh 10 64 2 (cm.fn []) rfl ?_;refine AK.wh 11 90 2 (cH.fn []) rfl ?_;refine dO rfl ?_ ?_
 .simp only[ag,show i90.bytes=16 from rfl,aF,aC];and_intros <;> omega
 refine AK.bO 6 (λi=>i<=s.1.length) (λi:Nat=>[(1,.e (.one (.ptr 0 0))),(2,.e (.one (.ptr 1 0))),(3,.e (.one (.ptr 5 0))),(4,dI i)]) (λi=>R2 s i (s.1.take i) 0 []) (λi=>s.1.length-i) 0 rfl ?_ rfl ?_ rfl (by omega) ?_
 .simp[ag.cat,ag]
 .simp[ag.cat,ag,aP,gn];rfl
 intro i hi
 by_cases h:i<s.1.length
 .have g:s.1.getD i (0,[])∈s.1:=by grind
  have a:s.1.getD (i:Int).toNat cP.bD=s.1.getD i (0,[]):=by rw[bz];rfl
  have q:=d _ g;refine aX [(20,ab),(2000038,ab)] 200 rfl ?_ (AK.aQ (i+1) rfl ?_ ?_ ?_ ?_)
  .simp only[ag,a,bu,show i85.bytes=32 from rfl,show i88.bytes=24 from rfl,ba,gg,aF,aC];and_intros <;> omega
  .simp[ag.cat,ag]
  .have e:=cP.gE s.1 h (0,[]);simp only[ag.cat,ag,a,gn,bt,aC,aF]
   and_intros <;> first|exactλ_ _=>rfl|exact e|rfl
  .show i+1<=_;omega
  .omega
 obtain rfl:i=s.1.length:=by omega
 rw[b6];refine aX [(20,ae)] 200 rfl (by simp[ag]) (AK.leaveD rfl rfl ?_)
 refine dO rfl av ?_;refine AK.bO 6 (λi=>i<=s.2.1.length) (λi:Nat=>[(1,.e (.one (.ptr 0 0))),(2,.e (.one (.ptr 1 0))),(3,.e (.one (.ptr 5 0))),(5,dI i)]) (λi=>R2 s s.1.length s.1 i (s.2.1.take i)) (λi=>s.2.1.length-i) 0 rfl ?_ rfl ?_ rfl (by omega) ?_
 .simp[ag.cat,ag]
 .simp[ag.cat,ag,aP.same,aP]
 intro i hi
 by_cases h:i<s.2.1.length
 .have g:s.2.1.getD i (0,[])∈s.2.1:=by grind
  have a:s.2.1.getD (i:Int).toNat cm.bD=s.2.1.getD i (0,[]):=by rw[bz];rfl
  have q:=f _ g;have e:=cm.gE s.2.1 h (0,[]);generalize s.2.1.getD i (0,[])=x at *;refine aX [(47,ab),(1000010,ab)] 200 rfl ?_ ?_
  .simp only[ag,a,ba,gg,aF,aC];and_intros <;> omega
  rw[a];refine AK.gj 6 1 92 2 (cL.fn []) rfl rfl ?_;refine dO rfl av ?_;refine AK.bO 8 (λj=>j<=x.2.length) (λj:Nat=>[(1,.e (.one (.ptr 0 0))),(2,.e (.one (.ptr 1 0))),(3,.e (.one (.ptr 5 0))),(5,dI i),(6,.e (.one (.ptr 6 0))),(7,dI j)]) (λj=>R2 s s.1.length s.1 i (s.2.1.take i)++[.cells 64 [.c (.int .i64 x.1),.vec 7 2 j (cL.fn (x.2.take j))],.vec 92 2 j (cL.fn (x.2.take j))]) (λj=>x.2.length-j) 0 rfl ?_ rfl ?_ rfl (by omega) ?_
  .simp[ag.cat,ag]
  .simp[ag.cat,ag,aP.same,aP]
  intro j k
  by_cases m:j<x.2.length
  .have b:x.2.getD (j:Int).toNat cL.bD=x.2.getD j ([],[]):=by rw[bz];rfl
   have u:=q.2 (x.2.getD j ([],[])) (by grind)
   have l:=cL.gE x.2 m ([],[]);refine aX [(66,ab),(2000085,ab)] 200 rfl ?_ (AK.aQ (j+1) rfl ?_ ?_ ?_ ?_)
   .simp only[ag,a,b,bu,show i92.bytes=40 from rfl,show i3.bytes=8 from rfl,ba,gg,aF,aC];and_intros <;> omega
   .simp[ag.cat,ag]
   .simp only[ag.cat,ag,a,b,gn,bt,aC,aF]
    and_intros <;> first|exactλ_ _=>rfl|exact l|rfl
   .show j+1<=_;omega
   .omega
  obtain rfl:j=x.2.length:=by omega
  rw[b6];refine aX [(66,ae)] 200 rfl ?_ (AK.leaveD rfl rfl ?_)
  .simp only[ag,a,bJ];and_intros <;> omega
  refine dO rfl ?_ (AK.aQ (i+1) rfl ?_ ?_ ?_ ?_)
  .simp only[ag,a,bu,show i64.bytes=32 from rfl,aF,aC];and_intros <;> omega
  .simp[ag.cat,ag]
  .simp only[ag.cat,ag,aC,aF]
   and_intros <;> first|exactλ_ _=>rfl|exact e|rfl
  .show i+1<=_;omega
  .omega
 obtain rfl:i=s.2.1.length:=by omega
 rw[b6];refine aX [(47,ae)] 200 rfl (by simp[ag]) (AK.leaveD rfl rfl ?_)
 refine dO rfl av ?_;refine AK.dA () [2,3,4] rfl rfl rfl rfl rfl rfl rfl rfl ?_ rfl rfl rfl rfl (λj k=>absurd k (by simp))
 .simp[ag.cat,ag,aP.same]
def Lr{o:aw}{j:an->D}{σ:List aV}{x y:an}{k:Array ar}{a b:Int} (m:Int)(h:o.op=.call { callee:=.builtin .max,args:=#[x,y],argTypes:=k })(q:j x=dI a)(p:j y=dI b)(n:max a b=m)(l:bu .i64 m):bF ah o j σ (dI m) σ:=by
 refine .quiet λs ρ r c=>?_
 have i:=c x;have d:=c y;rw[q] at i;rw[p] at d
 replace i:=fx i
 replace d:=fx d
 generalize f:ρ x=vx at i;generalize g:ρ y=vy at d;cases i;cases d;have e:(if a<b then b else a)=m:=by
  rw[<-n];split <;> omega
 exact⟨.int .i64 m,by simp[ay,h,resolve,invoke,builtin,f,g,Builtin.max_,Builtin.max2,e],.int l,by simp[ay,h,resolve,invoke,builtin,f,g,Builtin.max_,Builtin.max2]⟩
def ix(s:aZ):Int:=if s.1.length=0 then 1 else (s.1.getD (s.1.length-1) (0,[])).1+1
def po(l:List (Int×Int)):Int:=l.foldl (λm h=>max m (h.2+1)) 1
def fD(s:aZ):Int:=if s.2.1.length=0 then po s.2.2 else max (po s.2.2) ((s.2.1.getD (s.2.1.length-1) (0,[])).1+1)
structure RV (st:aZ):Prop where
 p:∀ x∈st.1,-4000000<=x.1/\x.1<=4000000
 s:∀ x∈st.2.1,-4000000<=x.1/\x.1<=4000000
 h:∀ x∈st.2.2,-4000000<=x.2/\x.2<=4000000
def se(l:List (Int×Int))(h:∀ x∈l,-4000000<=x.2/\x.2<=4000000):1<=po l/\po l<=4000001:=by
 have:∀ (l:List (Int×Int)) (m:Int),(∀ x∈l,-4000000<=x.2/\x.2<=4000000)->1<=m->m<=4000001->1<=l.foldl (λm h=>max m (h.2+1)) m/\l.foldl (λm h=>max m (h.2+1)) m<=4000001:=by
  intro l
  induction l with
  |nil=>intro m _ a b;exact⟨a,b⟩
  |cons x r c =>
   grind
 exact this l 1 h (by omega) (by omega)
def EF{l:List (Int×Int)}{i:Nat}(h:i<l.length):po (l.take (i+1))=max (po (l.take i)) ((l.getD i (0,0)).2+1):=by
 unfold po;rw[bq h (0,0),nD];rfl
def gN{α:Type}{l:List α}{i:Nat}(h:i<l.length)(d:α):l.getD i d∈l:=by
 grind
def HC(s:aZ)(d:dF s)(b:RV s):Ev X 182 [eH s] [] (.eJ [.one (.c (.int .i64 (ix s))),.one (.c (.int .i64 (fD s)))]) []:=by
 refine Ev.bQ Tryz.func182 rfl λo=>?_
 have k:=d.p;have j:=d.sn;have l:=d.h
 apply AK.join [(1,.e (.one (.ptr 0 0))),(4,dI (ix s)),(5,dI 1)] [HA s]
 .intro out
  by_cases h:s.1.length=0
  .refine aX [(10,ae),(1000005,ab)] 200 rfl (by simp only[ag,bJ];omega) ?_
   exact out _ _ rfl (by simp[ag.cat,ag,ix,h])
  .have f:=b.p _ (gN (show s.1.length-1<s.1.length by omega) (0,[]))
   have a:s.1.getD ((s.1.length:Int)-1).toNat cP.bD=s.1.getD (s.1.length-1) (0,[]):=by rw[show ((s.1.length:Int)-1).toNat=s.1.length-1 by omega];rfl
   refine aX [(10,ab),(1000005,ab)] 200 rfl ?_ ?_
   .simp only[ag,a,bu,ba,aF,aC];and_intros <;> omega
   exact out _ _ rfl (by simp only[ag.cat,ag,ix,aY h,a,aF,aC])
 refine dO rfl av ?_;refine AK.bO 1 (λi=>i<=s.2.2.length) (λi:Nat=>[(1,.e (.one (.ptr 0 0))),(4,dI (ix s)),(5,dI (po (s.2.2.take i))),(6,dI i)]) (λi=>[HA s]) (λi=>s.2.2.length-i) 0 rfl ?_ rfl ?_ rfl (by omega) ?_
 .simp[ag.cat,ag,po]
 .simp[ag.cat,ag,aP.same]
 intro i hi
 by_cases h:i<s.2.2.length
 .have f:=b.h _ (gN h (0,0));have g:=se (s.2.2.take i) λx n=>b.h x (iJ n)
  have a:s.2.2.getD (i:Int).toNat cH.bD=s.2.2.getD i (0,0):=by rw[bz];rfl
  have m:=EF h;refine aX [(25,ab)] 200 rfl ?_ ?_
  .simp only[ag,a,bu,ba,aF,aC];and_intros <;> omega
  rw[a];refine AK.law (Lr (po (s.2.2.take (i+1))) rfl rfl rfl m.symm (by simp only[bu];omega)) rfl rfl ?_
  refine dO rfl ?_ (AK.aQ (i+1) rfl ?_ ?_ ?_ ?_)
  .simp only[ag,bu];omega
  .simp[ag.cat,ag]
  .simp[ag.cat,ag,aP.same]
  .show i+1<=_;omega
  .omega
 obtain rfl:i=s.2.2.length:=by omega
 rw[b6];refine aX [(25,ae)] 200 rfl (by simp[ag]) (AK.leaveD rfl rfl ?_)
 have g:=se s.2.2 b.h
 by_cases h:s.2.1.length=0
 .refine aX [(40,ae)] 200 rfl (by simp only[ag,bJ];omega) (AK.bm rfl ?_)
  simp[ag.cat,ag,fD,h]
 .have f:=b.s _ (gN (show s.2.1.length-1<s.2.1.length by omega) (0,[]))
  have a:s.2.1.getD ((s.2.1.length:Int)-1).toNat cm.bD=s.2.1.getD (s.2.1.length-1) (0,[]):=by rw[show ((s.2.1.length:Int)-1).toNat=s.2.1.length-1 by omega];rfl
  refine aX [(40,ab)] 200 rfl ?_ ?_
  .simp only[ag,a,bu,ba,aF,aC];and_intros <;> omega
  rw[a];refine AK.law (Lr (fD s) rfl rfl rfl (by rw[fD,aY h]) (by rw[fD,aY h];simp only[bu];omega)) rfl rfl ?_
  refine dO rfl av (AK.bm rfl ?_);simp[ag.cat,ag]
abbrev R3(s:aZ)(i:Nat)(p:List bw)(j:Nat)(q:List cC):List aV:=[HA s,.cells 27 [dk,dk,dk],.vec 90 2 s.2.2.length (cH.fn s.2.2),.cells 27 [.vec 4 2 i (cP.fn p),.vec 5 2 j (cm.fn q),.vec 2 2 s.2.2.length (cH.fn s.2.2)],.vec 85 2 i (cP.fn p),.vec 64 2 j (cm.fn q)]
def fw(s:aZ)(r:s.1.length<=4000000)(d:∀ p∈s.1,p.2.length<=4000000)(o:s.2.1.length<=4000000)(f:iS s)(t:s.2.2.length<=4000000) :
  Ev X 38 [eH s] [] (.e (.agg [.vec 0 2 s.1.length (cP.fn s.1),.vec 1 2 s.2.1.length (cm.fn s.2.1),.vec 2 2 s.2.2.length (cH.fn s.2.2)])) [.vec 85 2 s.1.length (cP.fn s.1),.vec 64 2 s.2.1.length (cm.fn s.2.1),.vec 90 2 s.2.2.length (cH.fn s.2.2)]:=by
 refine Ev.iu tok Tryz.func38 rfl rfl rfl λn=>?_
 refine aX [(1000002,ab)] 200 rfl ?_ ?_
 .simp only[ag,show i90.bytes=16 from rfl,aF,aC,gg];and_intros <;> omega
 refine AK.gj 3 0 85 2 (cP.fn []) rfl rfl ?_;refine AK.gj 3 1 64 2 (cm.fn []) rfl rfl ?_;refine dO rfl av ?_;refine AK.bO 6 (λi=>i<=s.1.length) (λi:Nat=>[(1,.e (.one (.ptr 0 0))),(2,.e (.one (.ptr 1 0))),(3,.e (.one (.ptr 3 0))),(4,dI i)]) (λi=>R3 s i (s.1.take i) 0 []) (λi=>s.1.length-i) 0 rfl ?_ rfl ?_ rfl (by omega) ?_
 .simp[ag.cat,ag]
 .simp[ag.cat,ag,aP,gn]
 intro i hi
 by_cases h:i<s.1.length
 .have g:s.1.getD i (0,[])∈s.1:=by grind
  have a:s.1.getD (i:Int).toNat cP.bD=s.1.getD i (0,[]):=by rw[bz];rfl
  have q:=d _ g;refine aX [(20,ab),(2000038,ab)] 200 rfl ?_ (AK.aQ (i+1) rfl ?_ ?_ ?_ ?_)
  .simp only[ag,a,bu,show i85.bytes=32 from rfl,show i88.bytes=24 from rfl,ba,gg,aF,aC];and_intros <;> omega
  .simp[ag.cat,ag]
  .have e:=cP.gE s.1 h (0,[]);simp only[ag.cat,ag,a,gn,bt,aC,aF]
   and_intros <;> first|exactλ_ _=>rfl|exact e|rfl|omega
  .show i+1<=_;omega
  .omega
 obtain rfl:i=s.1.length:=by omega
 rw[b6];refine aX [(20,ae)] 200 rfl (by simp[ag]) (AK.leaveD rfl rfl ?_)
 refine dO rfl av ?_;refine AK.bO 6 (λi=>i<=s.2.1.length) (λi:Nat=>[(1,.e (.one (.ptr 0 0))),(2,.e (.one (.ptr 1 0))),(3,.e (.one (.ptr 3 0))),(5,dI i)]) (λi=>R3 s s.1.length s.1 i (s.2.1.take i)) (λi=>s.2.1.length-i) 0 rfl ?_ rfl ?_ rfl (by omega) ?_
 .simp[ag.cat,ag]
 .simp[ag.cat,ag,aP.same,aP]
 intro i hi
 by_cases h:i<s.2.1.length
 .have g:s.2.1.getD i (0,[])∈s.2.1:=by grind
  have a:s.2.1.getD (i:Int).toNat cm.bD=s.2.1.getD i (0,[]):=by rw[bz];rfl
  have q:=f _ g;have e:=cm.gE s.2.1 h (0,[]);generalize s.2.1.getD i (0,[])=x at *;refine aX [(47,ab),(1000010,ab)] 200 rfl ?_ ?_
  .simp only[ag,a,ba,gg,aF,aC];and_intros <;> omega
  rw[a];refine AK.gj 6 1 92 2 (cL.fn []) rfl rfl ?_;refine dO rfl av ?_;refine AK.bO 8 (λj=>j<=x.2.length) (λj:Nat=>[(1,.e (.one (.ptr 0 0))),(2,.e (.one (.ptr 1 0))),(3,.e (.one (.ptr 3 0))),(5,dI i),(6,.e (.one (.ptr 6 0))),(7,dI j)]) (λj=>R3 s s.1.length s.1 i (s.2.1.take i)++[.cells 64 [.c (.int .i64 x.1),.vec 7 2 j (cL.fn (x.2.take j))],.vec 92 2 j (cL.fn (x.2.take j))]) (λj=>x.2.length-j) 0 rfl ?_ rfl ?_ rfl (by omega) ?_
  .simp[ag.cat,ag]
  .simp[ag.cat,ag,aP.same,aP]
  intro j k
  by_cases m:j<x.2.length
  .have b:x.2.getD (j:Int).toNat cL.bD=x.2.getD j ([],[]):=by rw[bz];rfl
   have u:=q.2 (x.2.getD j ([],[])) (by grind)
   have l:=cL.gE x.2 m ([],[]);refine aX [(66,ab),(2000085,ab)] 200 rfl ?_ (AK.aQ (j+1) rfl ?_ ?_ ?_ ?_)
   .simp only[ag,a,b,bu,show i92.bytes=40 from rfl,show i3.bytes=8 from rfl,ba,gg,aF,aC];and_intros <;> omega
   .simp[ag.cat,ag]
   .simp only[ag.cat,ag,a,b,gn,bt,aC,aF]
    and_intros <;> first|exactλ_ _=>rfl|exact l|rfl
   .show j+1<=_;omega
   .omega
  obtain rfl:j=x.2.length:=by omega
  rw[b6];refine aX [(66,ae)] 200 rfl ?_ (AK.leaveD rfl rfl ?_)
  .simp only[ag,a,bJ];and_intros <;> omega
  refine dO rfl ?_ (AK.aQ (i+1) rfl ?_ ?_ ?_ ?_)
  .simp only[ag,a,bu,show i64.bytes=32 from rfl,aF,aC];and_intros <;> omega
  .simp[ag.cat,ag]
  .simp only[ag.cat,ag,aC,aF]
   and_intros <;> first|exactλ_ _=>rfl|exact e|rfl|omega
  .show i+1<=_;omega
  .omega
 obtain rfl:i=s.2.1.length:=by omega
 rw[b6];refine aX [(47,ae)] 200 rfl (by simp[ag]) (AK.leaveD rfl rfl ?_)
 refine dO rfl av ?_;refine AK.dA () [4,5,2] rfl rfl rfl rfl rfl rfl rfl rfl ?_ rfl rfl rfl rfl (λj k=>absurd k (by simp))
 .simp[ag.cat,ag,aP.same]
def _root_.Go.AM.hU.yC{α:Type}(c:hU α)(l:List α){n:Nat}{es:Nat->List C}(a:aP n es (c.fn l))(hn:n<=l.length):c.list n es=l.take n:=by
 apply pE
 .simp[hU.list];omega
 .intro i h1 h2;have hi:i<n:=by grind
  simp[hU.list,a i hi,hU.fn,sH,ai,br (show i<l.length by omega),c.inv]
def _root_.Go.AM.hU.Gd{α:Type}(c:hU α)(l:List α){n:Nat}{es:Nat->List C}(a:aP n es (c.fn l)):c.fits n es:=λi hi=>by
 rw[a i hi];exact c.aH l i (Nat.lt_succ_self i)
def Ld(a b:Nat):min (a:Int) (b:Int)=((min a b:Nat):Int):=by
 grind
def gU(k:Int):Nat->Int->List Bs->List bw
 |0,_,_=>[]
 |f+1,no,ps=>if 0<ps.length then kR no k (ps.take 4)::gU k f (no+1) (ps.drop 4) else []
def yD(k:Int)(s:aZ)(t:List bA):List bw:=gU k (jT k t (indexOf s.1)).length (ix s) (jT k t (indexOf s.1))
def jY(k:Int)(s:aZ)(t:List bA):Bool:=decide (20<s.1.length+(yD k s t).length)||(decide (99<ix s+(yD k s t).length-1)||(decide (20<fD s)||decide (9<=s.2.2.length)))
def nj(k:Int)(s:aZ) (by_:Int)(t:List bA):aZ:=(s.1++yD k s t,s.2.1++[kn (fD s) k t],s.2.2++[(by_,fD s)])
theorem wN(k:Int):∀ f no ps,(gU k f no ps).length<=f
 |0,_,_=>bg _
 |f+1,no,ps=>by
  simp only[gU];split
  .have:=wN k f (no+1) (ps.drop 4);grind
  .simp
abbrev Le:dh:=Dk aI aI (aL cS) (λno k ps=>xM (kR no k ps)) λ_ k ps=>[ck k=ab,∀ p∈ps,bH p=ab,ps.length<=4000000]
def RS:dG X 185 Le:=.IW λno k ps h=>Lf no k ps h.1 h.2.1 h.2.2
abbrev P2:dh:=Dk aI aI (aL cF) (λno k t=>Ek (kn no k t)) λ_ k t=>[ck k=ab,wO t]
def UR:dG X 186 P2:=.IW λno k t h=>OB no k t h.1 h.2
abbrev Lg:dh:=Dk aI (aL cF) (aL oC) (λk t l=>cS.sl (jT k t l)) λk t l=>[ck k=ab,wO t,l.length<=4000000]
def RU:dG X 183 Lg:=.IW λk t l h=>Lh k t l h.1 h.2.1 h.2.2
def wP{k:Int}{t:List bA}{l:List di}(c:wO t):(∀ p∈jT k t l,bH p=ab)/\(jT k t l).length<=100000:=by
 constructor
 .have:∀ (ps a:List Bs),(∀ p∈ps,bH p=ab)->(∀ p∈a,bH p=ab)->∀ p∈ps.foldl (nk k l) a,bH p=ab:=by
   intro ps
   induction ps with
   |nil=>grind
   |cons q r g =>
    intro a h d;refine g _ (λp b=>h p (uN _ b)) λp b=>?_
    unfold nk at b
    grind
  refine this _ [] (λp b=>?_) (by simp)
  obtain⟨f,e,b⟩:=List.mem_flatMap.1 b;exact tj (c.AB f e).1 p b
 .have:=yE k l (ko t) [];have d:=c.all;unfold jT;simp only[hZ] at this;exact eK this (by omega)
def Cl{l:List bw}(h:(fE l).length<=100000):(indexOf l).length<=100000:=by
 unfold indexOf
 grind [yF]
abbrev Ya(k by_ no:Int)(s:aZ)(t:List bA)(rest:List Bs):Fr:=[(0,dI k),(2,dI by_),(3,cF.sl t),(5,.e (.one (.ptr 0 0))),(8,.e (.one (.ptr 1 0))),(10,.e (.one (.ptr 5 0))),(11,dI no),(12,dI (fD s)),(13,cS.sl rest)]
abbrev US(s:aZ)(ps:List bw):List aV:=[HA s,.cells 27 [dk,dk,dk],.vec 85 2 ps.length (cP.fn ps),.vec 64 2 s.2.1.length (cm.fn s.2.1),.vec 90 2 s.2.2.length (cH.fn s.2.2),.cells 27 [.vec 2 2 ps.length (cP.fn ps),.vec 3 2 s.2.1.length (cm.fn s.2.1),.vec 4 2 s.2.2.length (cH.fn s.2.2)]]
abbrev tSt(s:aZ)(b:Bool):D:=.eJ [.agg [.c (.sl ae 2 s.1.length (cP.fn s.1)),.c (.sl ae 2 s.2.1.length (cm.fn s.2.1)),.c (.sl ae 2 s.2.2.length (cH.fn s.2.2))],.one (.c (.bool b))]
def HB(k:Int)(s:aZ) (by_:Int)(t:List bA)(u:ck k=ab)(a:dF s)(g:RV s)(d:wO t)(o:(fE s.1).length<=100000) :
  Ev X 155 [dI k,eH s,dI by_,cF.sl t] [] (tSt (if jY k s t=ab then s else nj k s by_ t) (!jY k s t)) []:=by
 refine Ev.fY Tryz.func155 rfl rfl rfl λM=>?_
 have c:bC X [(184,Li),(183,Lg),(185,Le),(186,P2)]:=.cons RX (.cons RU (.cons RS (.cons UR .nil)));have P:=a.p;have O:=a.sn;have N:=a.h;have L:=Cl o;refine aD c [] 200 rfl av ?_;refine AK.cQ (fw s a.p a.p2 a.sn a.s2 a.h) [] rfl ?_;refine aD c [] 200 rfl av ?_;refine AK.cQ (HC s a g) [] rfl ?_;refine aD c [] 200 rfl ?_ ?_
 .simp only[ag,cP.list_fn,oC.list_fn,cF.list_fn,u,d]
  and_intros <;> first|exact cP.aH _|exact oC.aH _|exact cF.aH _|trivial|exact d|omega
 simp only[cP.list_fn,oC.list_fn,cF.list_fn];obtain⟨n,K⟩:=wP (k:=k) (l:=indexOf s.1) d;have Q:yD k s t=gU k (jT k t (indexOf s.1)).length (ix s) (jT k t (indexOf s.1)):=rfl;generalize jT k t (indexOf s.1)=pc at *;generalize w:yD k s t=np at *;have y:-4000000<=ix s/\ix s<=4000001:=by
  unfold ix;split
  .omega
  .rename_i h
   have:=g.p _ (gN (show s.1.length-1<s.1.length by omega) (0,[]))
   omega
 have C:np.length<=100000:=by grind [wN]
 refine AK.kN (S2:=Unit) 0 rfl rfl (λ_=>True) (λ_=>[(0,dI k),(2,dI by_),(3,cF.sl t),(5,.e (.one (.ptr 0 0))),(8,.e (.one (.ptr 1 0))),(10,.e (.one (.ptr 5 0))),(11,dI (ix s+np.length)),(12,dI (fD s))]) (λ_=>US s (s.1++np)) 6
  (λx:List Bs×List bw=>(∀ p∈x.1,bH p=ab)/\x.2.length+x.1.length<=5000000/\s.1.length<=x.2.length/\∃ f,x.1.length<=f/\s.1++np=x.2++gU k f (ix s+(x.2.length-s.1.length:Nat)) x.1) (λx=>Ya k by_ (ix s+(x.2.length-s.1.length:Nat)) s t x.1) (λx=>US s x.2) (λx=>x.1.length) (pc,s.1) rfl ?_ rfl ?_ rfl ⟨n,by grind,bg _,pc.length,bg _,by grind⟩ ?_ ?_
 .simp[ag.cat,ag,aP.same]
 .simp[ag.cat,ag,aP.same]
 .rintro out ⟨rest,ps⟩ ⟨q,g2,g3,f,g4,g5⟩;simp only at q g2 g3 g4 g5
  by_cases h:0<rest.length
  .obtain⟨f,rfl⟩:∃ H,f=H+1:=⟨f-1,by omega⟩
   simp only[gU,bc h] at g5;have E:bu .i64 ((min rest.length 4:Nat):Int):=by simp only[bu];omega
   refine aD c [(30,ab)] 200 rfl (by simp only[ag,ba];omega) ?_
   refine AK.law (Aj ((min rest.length 4:Nat):Int) rfl rfl rfl (Ld rest.length 4) E) rfl rfl ?_;have v:cS.list (cr rest.length (aa ((min rest.length 4:Nat):Int))-cr 0 af) (jK (cr 0 af) (cS.fn rest))=rest.take 4:=by
    have m:cr rest.length (aa ((min rest.length 4:Nat):Int))-cr 0 af=min rest.length 4:=by simp[cr]
    rw[m,cS.yC rest (λi hi=>by simp[jK,cr]) (by omega)]
    grind
   have I:cS.fits (cr rest.length (aa ((min rest.length 4:Nat):Int))-cr 0 af) (jK (cr 0 af) (cS.fn rest)):=cS.Gd rest (λi hi=>by simp[jK,cr])
   have B:aP (rest.length-min rest.length 4) (jK (min rest.length 4) (cS.fn rest)) (cS.fn (rest.drop 4)):=by
    intro i hi;have J:min rest.length 4=4:=by omega
    rw[J];simp only[jK,hU.fn,sH,ai,nB]
   have r:∀ p∈rest.take 4,bH p=ab:=λp j=>q p (iJ j)
   have z:=cP.cn ps (kR (ix s+(ps.length-s.1.length:Nat)) k (rest.take 4));refine aD c [] 200 rfl ?_ (AK.aQ (rest.drop 4,ps++[kR (ix s+(ps.length-s.1.length:Nat)) k (rest.take 4)]) rfl ?_ ?_ ?_ ?_)
   .simp only[ag,bu,v,u,I,List.length_take,show i85.bytes=32 from rfl,aF,aC]
    and_intros <;> first|exact r|omega
   .simp only[ag.cat,ag,bP,eZ,hZ,oJ,cr,bz,aF,aC]
    and_intros <;> first|rfl|omega|exactλ_ _=>rfl|exact B
   .simp only[ag.cat,ag,v,bP,eZ,hZ,aF,aC]
    and_intros <;> first|rfl|exactλ_ _=>rfl|exact z|omega
   .refine⟨λp j=>q p (List.mem_of_mem_drop j),by grind,by grind,f,by grind,?_⟩
    grind
   grind
  .have e:ps=s.1++np:=by
    rw[g5];cases f <;> simp[gU,h]
   refine aD c [(30,ae)] 200 rfl (by simp only[ag,bJ];omega) (AK.leaveD rfl rfl ?_)
   refine out () av rfl ?_ rfl ?_
   .simp only[ag.cat,ag,e,bP,aF,aC]
    and_intros <;> first|rfl|omega|exactλ_ _=>rfl
   .simp[ag.cat,ag,aP.same,e]
 rintro⟨⟩ -;have D:jY k s t=(decide (20<s.1.length+np.length)||(decide (99<ix s+np.length-1)||(decide (20<fD s)||decide (9<=s.2.2.length)))):=by unfold jY;rw[w]
 have F:-4000000<=fD s/\fD s<=4000001:=by
  have:=se s.2.2 g.h;unfold fD;split
  .omega
  .rename_i h
   have:=g.s _ (gN (show s.2.1.length-1<s.2.1.length by omega) (0,[]))
   omega
 have G:(s.1++np).length=s.1.length+np.length:=bP
 by_cases c1:20<s.1.length+np.length
 .have b:jY k s t=ab:=by grind
  rw[b];refine aD c [(53,ab)] 200 rfl ?_ ?_
  .simp only[ag,bP,bu,ba,bJ,aF,aC];grind
  refine AK.cQ (fw s a.p a.p2 a.sn a.s2 a.h) [] rfl ?_;refine aD c [] 200 rfl av ?_;refine AK.freeze 8 1 rfl rfl rfl ?_;refine AK.iQ tok [] rfl ?_ rfl rfl rfl fN;simp[ag.cat,ag,aP.same]
 by_cases c2:99<ix s+np.length-1
 .have b:jY k s t=ab:=by grind
  rw[b];refine aD c [(53,ae),(57,ab)] 200 rfl ?_ ?_
  .simp only[ag,bP,bu,ba,bJ,aF,aC];and_intros <;> omega
  refine AK.cQ (fw s a.p a.p2 a.sn a.s2 a.h) [] rfl ?_;refine aD c [] 200 rfl av ?_;refine AK.freeze 8 1 rfl rfl rfl ?_;refine AK.iQ tok [] rfl ?_ rfl rfl rfl fN;simp[ag.cat,ag,aP.same]
 by_cases c3:20<fD s
 .have b:jY k s t=ab:=by grind
  rw[b];refine aD c [(53,ae),(57,ae),(61,ab)] 200 rfl ?_ ?_
  .simp only[ag,bP,bu,ba,bJ,aF,aC];and_intros <;> omega
  refine AK.cQ (fw s a.p a.p2 a.sn a.s2 a.h) [] rfl ?_;refine aD c [] 200 rfl av ?_;refine AK.freeze 8 1 rfl rfl rfl ?_;refine AK.iQ tok [] rfl ?_ rfl rfl rfl fN;simp[ag.cat,ag,aP.same]
 by_cases c4:9<=s.2.2.length
 .have b:jY k s t=ab:=by grind
  rw[b];refine aD c [(53,ae),(57,ae),(61,ae),(67,ab)] 200 rfl ?_ ?_
  .simp only[ag,bP,bu,ba,bJ,aF,aC];and_intros <;> omega
  refine AK.cQ (fw s a.p a.p2 a.sn a.s2 a.h) [] rfl ?_;refine aD c [] 200 rfl av ?_;refine AK.freeze 8 1 rfl rfl rfl ?_;refine AK.iQ tok [] rfl ?_ rfl rfl rfl fN;simp[ag.cat,ag,aP.same]
 have b:jY k s t=ae:=by grind
 rw[b];have m:=cm.cn s.2.1 (kn (fD s) k t);have A:=cH.cn s.2.2 (by_,fD s);refine aD c [(53,ae),(57,ae),(61,ae),(67,ae)] 200 rfl ?_ ?_
 .simp only[ag,u,cF.list_fn,bP,bu,show i64.bytes=32 from rfl,show i90.bytes=16 from rfl,ba,bJ,aF,aC]
  and_intros <;> first|exact d|exact cF.aH _|rfl|omega
 refine AK.freeze 8 1 rfl rfl rfl ?_;refine AK.iQ tok [] rfl ?_ rfl rfl rfl fN;simp only[ag.cat,ag,cF.list_fn,nj,w,bP,eZ,hZ,aF,aC]
 and_intros <;> first|rfl|exactλ_ _=>rfl|exact m|exact A|simp
end
def ui{t:List bA}(h:dj t=ab):wO t:=by
 obtain⟨k,_,_,n⟩:=uh.1 h;have m:∀ f∈t,b7 f.2=ab/\f.2.length<=40:=λf d=>by
  have:=(k f d).2;simp only[dX,bL,ba] at this
  grind
 refine⟨by omega,λf d=>⟨(m f d).1,by grind⟩,?_⟩
 have:∀ l:List bA,(∀ f∈l,f.2.length<=40)->(ko l).length<=40*l.length:=by
  intro l
  induction l with
  |nil=>intro _;simp[ko]
  |cons f r j =>
   intro e;have a:=j λg i=>e g (uN _ i)
   have b:=e f List.mem_cons_self;have c:=n5 f.2;simp only[ko,List.flatMap_cons,bP,eZ] at a ⊢;omega
 grind
def LU(no k:Int)(ps:List Bs):(kR no k ps).2.length=ps.length:=Ge k ps
def AV{l:List cC}:∀ (a:Int),l.Pairwise (λa b=>a.1<b.1)->(∀ x∈l,a<=x.1/\x.1<=20)->(l.length:Int)<=max 0 (21-a):=by
 induction l with
 |nil=>grind
 |cons x r e =>
  intro a f c;obtain⟨h,d⟩:=List.pairwise_cons.1 f;have i:=c x List.mem_cons_self;have:=e (x.1+1) d λy g=>⟨by grind,(c y (uN _ g)).2⟩
  grind
def yY(k:Int):∀ (f:Nat) (no:Int)(ps:List Bs),(∀ q∈ps,bH q=ab)->∀ x∈gU k f no ps,∃ a c,no<=a/\a<no+(gU k f no ps).length/\0<c.length/\c.length<=4/\(∀ q∈c,bH q=ab)/\x=kR a k c
 |0,_,_,_,x,b=>by simp[gU] at b
 |f+1,no,ps,e,x,b=>by
  simp only[gU] at b ⊢;split at b
  .rename_i h
   rw[bc h];rcases e9.1 b with rfl|b
   .grind
   .obtain⟨a,c,j,g,i⟩:=yY k f (no+1) (ps.drop 4) (λq d=>e q (List.mem_of_mem_drop d)) x b
    grind
  grind
def Ii{α:Type}{l:List α}(h:l.length≠0)(d:α):l.getD (l.length-1) d∈l:=gN (by omega) d
def tv(k:Int):∀ (f:Nat) (no:Int)(ps:List Bs),∀ x∈gU k f no ps,no<=x.1
 |0,_,_,x,a=>by simp[gU] at a
 |f+1,no,ps,x,a=>by
  simp only[gU] at a;split at a
  .rcases e9.1 a with rfl|a
   .exact Int.le_refl _
   .have:=tv k f (no+1) (ps.drop 4) x a;omega
  grind
def xe(k:Int):∀ (f:Nat) (no:Int)(ps:List Bs),(gU k f no ps).Pairwise λa b=>a.1<b.1
 |0,_,_=>by simp[gU]
 |f+1,no,ps=>by
  simp only[gU];split
  .refine List.pairwise_cons.2 ⟨λx c=>?_,xe k f (no+1) (ps.drop 4)⟩
   have:=tv k f (no+1) (ps.drop 4) x c;show no<x.1;omega
  .simp
section
open Go.Proofs
variable {X:Cx ah}
def wZ{α:Type}{q:α->Bool}{l:List α}(h:l.any q=ab):0<=oE q l:=by
 unfold oE
 grind
theorem w5{α:Type}{q:α->Bool}{l:List α}(h:l.any q=ae):oE q l=-1:=by
 unfold oE
 grind
def Lv(l:List (Int×Int))(b:Nat)(q:Int×Int->Bool)(f:∀ x,x∈l->Ev X b [.e (.agg [.c (.int .i64 x.1),.c (.int .i64 x.2)])] [] (dB (q x)) []) :
  Ev X 91 [cH.sl l,.e (.one (.c (.fn (.func b) [] [])))] [] (dI (oE q l)) []:=by
 refine Ev.bQ Tryz.func91 rfl λk=>?_
 have d:=k.sl 0 rfl;refine bk rfl av ?_;refine AK.jO (λi=>i<=l.length/\∀ j,j<i->q (l.getD j (0,0))=ae) (λi:Nat=>[(0,cH.sl l),(1,.e (.one (.c (.fn (.func b) [] [])))),(7,dI l.length),(8,dI i)]) (λ_=>[]) (λi=>l.length-i) 0 rfl ?_ rfl av ⟨by omega,by omega⟩ ?_
 .simp[ag.cat,ag,aP.same]
 rintro i ⟨hi,a⟩
 by_cases h:i<l.length
 .have n:l.getD i (0,0)∈l:=by grind
  have g:l.getD (i:Int).toNat cH.bD=l.getD i (0,0):=by grind
  refine aX [(9,ab)] 100 rfl ?_ ?_
  .simp only[ag]
   grind
  rw[g];refine AK.cQ (f _ n) [] rfl ?_;cases m:q (l.getD i (0,0)) with
  |true =>
   refine aX [(16,ab)] 100 rfl ?_ (AK.gJ (b5.zero rfl ?_))
   .simp[ag]
   .simp[ag,p6 h m a]
  |false =>
   refine aX [(16,ae)] 100 rfl ?_ (AK.fU (i+1) rfl ?_ rfl av ?_ ?_)
   .simp[ag,bu];omega
   .simp[ag.cat,ag,aP.same]
   .grind
   .omega
 .refine aX [(9,ae)] 100 rfl (by simp[ag];omega) (AK.leave rfl rfl ?_)
  refine bk rfl av (AK.bm rfl ?_);simp[ag,lL (λj o=>a j (by omega))]
def Lw(l:List (Int×Int))(a:Nat)(q:Int×Int->Bool)(b:∀ x,x∈l->Ev X a [.e (.agg [.c (.int .i64 x.1),.c (.int .i64 x.2)])] [] (dB (q x)) []) :
  Ev X 49 [cH.sl l,.e (.one (.c (.fn (.func a) [] [])))] [] (dB (l.any q)) []:=by
 refine Ev.bQ Tryz.func49 rfl λd=>?_
 refine bk rfl av ?_;refine AK.cQ (Lv l a q b) [] rfl ?_;cases h:l.any q with
 |true =>
  refine aX [(8,ab)] 100 rfl (cj (wZ h)) (AK.bm rfl ?_);simp[ag]
 |false =>
  refine aX [(8,ae)] 100 rfl (eu (by grind [w5])) (AK.bm rfl ?_)
  simp[ag]
def Lx(l:List (bw))(b:Nat)(cs:List C)(q:bw->Bool)(f:∀ x,x∈l->Ev X b [xM x,.e (.one (.c (.rp cs)))] [] (dB (q x)) []) :
  Ev X 110 [cP.sl l,.e (.one (.c (.fn (.func b) [] [.rp cs])))] [] (dI (oE q l)) []:=by
 refine Ev.bQ Tryz.func110 rfl λk=>?_
 have d:=k.sl 0 rfl;refine bk rfl av ?_;refine AK.jO (λi=>i<=l.length/\∀ j,j<i->q (l.getD j (0,[]))=ae) (λi:Nat=>[(0,cP.sl l),(1,.e (.one (.c (.fn (.func b) [] [.rp cs])))),(7,dI l.length),(8,dI i)]) (λ_=>[]) (λi=>l.length-i) 0 rfl ?_ rfl av ⟨by omega,by omega⟩ ?_
 .simp[ag.cat,ag,aP.same]
 rintro i ⟨hi,a⟩
 by_cases h:i<l.length
 .have n:l.getD i (0,[])∈l:=by grind
  have g:l.getD (i:Int).toNat cP.bD=l.getD i (0,[]):=by grind
  refine aX [(9,ab)] 100 rfl ?_ ?_
  .simp only[ag]
   grind
  rw[g];refine AK.cQ (f _ n) [] rfl ?_;cases m:q (l.getD i (0,[])) with
  |true =>
   refine aX [(16,ab)] 100 rfl ?_ (AK.gJ (b5.zero rfl ?_))
   .simp[ag]
   .simp[ag,p6 h m a]
  |false =>
   refine aX [(16,ae)] 100 rfl ?_ (AK.fU (i+1) rfl ?_ rfl av ?_ ?_)
   .simp[ag,bu];omega
   .simp[ag.cat,ag,aP.same]
   .grind
   .omega
 .refine aX [(9,ae)] 100 rfl (by simp[ag];omega) (AK.leave rfl rfl ?_)
  refine bk rfl av (AK.bm rfl ?_);simp[ag,lL (λj o=>a j (by omega))]
def Ly(l:List (bw))(a:Nat)(cs:List C)(q:bw->Bool)(b:∀ x,x∈l->Ev X a [xM x,.e (.one (.c (.rp cs)))] [] (dB (q x)) []) :
  Ev X 70 [cP.sl l,.e (.one (.c (.fn (.func a) [] [.rp cs])))] [] (dB (l.any q)) []:=by
 refine Ev.bQ Tryz.func70 rfl λd=>?_
 refine bk rfl av ?_;refine AK.cQ (Lx l a cs q b) [] rfl ?_;cases h:l.any q with
 |true =>
  refine aX [(8,ab)] 100 rfl (cj (wZ h)) (AK.bm rfl ?_);simp[ag]
 |false =>
  refine aX [(8,ae)] 100 rfl (eu (by grind [w5])) (AK.bm rfl ?_)
  simp[ag]
def Lz(l:List (Int))(b:Nat)(cs:List C)(H:ak->(Nat->Option Obj)->Prop)(q:Int->Bool)(f:∀ x,x∈l->Ev X b [dI x,.e (.one (.c (.rp cs)))] [.dz H] (dB (q x)) [.dz H]) :
  Ev X 108 [cI.sl l,.e (.one (.c (.fn (.func b) [] [.rp cs])))] [.dz H] (dI (oE q l)) [.dz H]:=by
 refine Ev.bQ Tryz.func108 rfl λk=>?_
 have d:=k.sl 0 rfl;refine bk rfl av ?_;refine AK.bO 1 (λi=>i<=l.length/\∀ j,j<i->q (l.getD j 0)=ae) (λi:Nat=>[(0,cI.sl l),(1,.e (.one (.c (.fn (.func b) [] [.rp cs])))),(7,dI l.length),(8,dI i)]) (λ_=>[.dz H]) (λi=>l.length-i) 0 rfl ?_ rfl ?_ rfl ⟨by omega,by omega⟩ ?_
 .simp[ag.cat,ag,aP.same]
 .simp[ag.cat,ag,aP.same]
 rintro i ⟨hi,a⟩
 by_cases h:i<l.length
 .have n:l.getD i 0∈l:=by grind
  have g:l.getD (i:Int).toNat cI.bD=l.getD i 0:=by grind
  refine aX [(9,ab)] 100 rfl ?_ ?_
  .simp only[ag]
   grind
  rw[g];refine AK.cQ (f _ n) [0] rfl ?_;cases m:q (l.getD i 0) with
  |true =>
   refine aX [(16,ab)] 100 rfl ?_ (AK.ei (b5.mk [0] rfl ?_ rfl rfl rfl l3))
   .simp[ag]
   .simp[ag,p6 h m a]
  |false =>
   refine aX [(16,ae)] 100 rfl ?_ (AK.aQ (i+1) rfl ?_ ?_ ?_ ?_)
   .simp[ag,bu];omega
   .simp[ag.cat,ag,aP.same]
   .simp[ag.cat,ag,aP.same]
   .grind
   .omega
 .refine aX [(9,ae)] 100 rfl (by simp[ag];omega) (AK.leaveD rfl rfl ?_)
  refine bk rfl av (AK.dD [0] rfl ?_ rfl rfl rfl l3);simp[ag,lL (λj o=>a j (by omega))]
def LA(l:List (Int))(a:Nat)(cs:List C)(H:ak->(Nat->Option Obj)->Prop)(q:Int->Bool)(b:∀ x,x∈l->Ev X a [dI x,.e (.one (.c (.rp cs)))] [.dz H] (dB (q x)) [.dz H]) :
  Ev X 67 [cI.sl l,.e (.one (.c (.fn (.func a) [] [.rp cs])))] [.dz H] (dB (l.any q)) [.dz H]:=by
 refine Ev.bQ Tryz.func67 rfl λd=>?_
 refine bk rfl av ?_;refine AK.cQ (Lz l a cs H q b) [0] rfl ?_;cases h:l.any q with
 |true =>
  refine aX [(8,ab)] 100 rfl (cj (wZ h)) (AK.dD [0] rfl ?_ rfl rfl rfl l3);simp[ag]
 |false =>
  refine aX [(8,ae)] 100 rfl (eu (by grind [w5])) (AK.dD [0] rfl ?_ rfl rfl rfl l3)
  simp[ag]
def wQ:∀ j,j<1->([0]:List Nat)[j]?=aa j:=λj a=>by
 have:j=0:=by omega
 subst this;rfl
set_option maxRecDepth 20000 in
def L8(m:Nat)(b:Nat->Int)(d:Bytes b)(k:Nat)(g:k<=4000000)(f:m<=1048576)(l:List Bs)(i:1<=l.length/\l.length<=1000) :
  cK (ι:={ p:Bs // p∈l }) X 101 [.e (.one (.ptr 0 0)),cS.sl l] [lu m b k] (λp=>dS p.1) (λ_=>[lu m b (k+1)]):=by
 refine cK.om Tryz.func101 rfl rfl rfl λh=>?_
 refine bk rfl av ?_;refine AK.cP (ez m b d k l.length g f (by omega)) [0] rfl (λ_=>rfl) ?_
 rintro⟨v,v0,v1⟩;refine bk rfl ?_ ?_
 .simp[ag];omega
 have c:l.getD v.toNat cS.bD∈l:=by
  have a:v.toNat<l.length:=by omega
  rw[ai,br a];exact oK a
 refine AK.lg ⟨l.getD v.toNat cS.bD,c⟩ (AK.dD [0] rfl ?_ rfl rfl rfl wQ);simp[ag]
def L9:List Bs:=[[],[102],[97,47],[97,98],[97,47,98,47,99],[47,97]]
def Ma:List Bs:=[[97],[98],[99,47,97],[99,47,98],[100,47,97],[101],[97,47,98],[100]]
set_option maxRecDepth 20000 in
def Gq(m:Nat)(b:Nat->Int)(a:Bytes b)(k:Nat)(g:k<=100000)(d:m<=1048576) :
  cK (ι:={ p:Bs // p.length<=8 }) X 99 [.e (.one (.ptr 0 0))] [lu m b k] (λp=>dS p.1) (λ_=>[lu m b (k+1+1)]):=by
 refine cK.om Tryz.func99 rfl rfl rfl λf=>?_
 refine bk rfl av ?_;refine AK.cP (ez m b a k 40 (by omega) d (by omega)) [0] rfl (λ_=>rfl) ?_
 rintro⟨v,v0,v1⟩
 by_cases h:v=0
 .refine aX [(5,ab)] 100 rfl ?_ ?_
  .simp[ag,h]
  have:=L8 (X:=X) m b a (k+1) (by omega) d L9 (by decide)
  refine AK.mm this [0] rfl rfl rfl rfl ?_ rfl rfl rfl (λ_=>rfl) rfl (λ_=>rfl) rfl ?_
  .refine⟨rfl,λi hi=>?_⟩
   rcases i with _|_|_|_|_|_|i <;> first|rfl|omega
  rintro⟨p,c⟩;refine bk rfl av (AK.lg ⟨p,(by decide:∀ p∈L9,p.length<=8) p c⟩ (AK.dD [0] rfl ?_ rfl rfl rfl wQ))
  simp[ag]
 .refine aX [(5,ae)] 100 rfl ?_ ?_
  .simp[ag,h]
  have:=L8 (X:=X) m b a (k+1) (by omega) d Ma (by decide)
  refine AK.mm this [0] rfl rfl rfl rfl ?_ rfl rfl rfl (λ_=>rfl) rfl (λ_=>rfl) rfl ?_
  .refine⟨rfl,λi hi=>?_⟩
   rcases i with _|_|_|_|_|_|_|_|i <;> first|rfl|omega
  rintro⟨p,c⟩;refine bk rfl av (AK.lg ⟨p,(by decide:∀ p∈Ma,p.length<=8) p c⟩ (AK.dD [0] rfl ?_ rfl rfl rfl wQ))
  simp[ag]
def words:List Bs:=[[97,98,99],[104,101,108,108,111],[119,111,114,108,100],[97,97,97,97],[107,101,101,112],[122,122],[98,97,99,107,117,112],[113]]
abbrev Vg(k:Nat):={ q:Bs×Nat // q.1.length<=100000/\k<=q.2/\q.2<=k+60 }
def Gr(s:Bs) (n:Int)(b:s.length<=10)(l:0<=n/\n<=100):cK (ι:={ p:Bs // p.length<=100000 }) X 157 [dS s,dI n] [] (λp=>dS p.1) (λ_=>[]):=by
 refine cK.om Tryz.func157 rfl rfl rfl λg=>?_
 refine bk rfl av ?_;refine AK.jO (λx:Nat×Bs×Bs=>x.1<=100/\x.2.2.length+x.2.1.length*x.1<=1010) (λx=>[(0,dS x.2.1),(1,dI x.1),(5,dS x.2.2)]) (λ_=>[]) (λx=>x.1) (n.toNat,s,[]) rfl ?_ rfl av ⟨by grind,?_⟩ ?_
 .simp[ag,ag.cat];omega
 .have:s.length*n.toNat<=10*100:=Nat.mul_le_mul b (by omega)
  grind
 rintro⟨k,t,out⟩ ⟨f,c⟩;simp only at f c
 by_cases a:0<k
 .have j:t.length<=t.length*k:=qV _ a;have i:((k:Int) / 2)=((k / 2:Nat):Int):=by omega
  by_cases h:k % 2=1
  .have d:(t++t).length*(k / 2)+t.length=t.length*k:=by
    have e:k=2*(k / 2)+1:=by omega
    grind
   refine aX [(7,ab),(10,ab)] 100 rfl ?_ (AK.fU (k / 2,t++t,out++t) rfl ?_ rfl av ?_ ?_)
   .simp[ag,a];omega
   .simp[ag,ag.cat]
   .grind
   grind
  .have d:(t++t).length*(k / 2)=t.length*k:=by
    have e:k=2*(k / 2):=by omega
    grind
   refine aX [(7,ab),(10,ae)] 100 rfl ?_ (AK.fU (k / 2,t++t,out) rfl ?_ rfl av ?_ ?_)
   .simp[ag,a];omega
   .simp[ag,ag.cat]
   .grind
   grind
 .obtain rfl:k=0:=by omega
  refine aX [(7,ae)] 100 rfl (by simp[ag]) (AK.leave rfl rfl ?_)
  refine bk rfl av (AK.lg ⟨out,by omega⟩ (AK.bm rfl ?_))
  simp[ag]
set_option maxRecDepth 20000 in
def OV(m:Nat)(b:Nat->Int)(c:Bytes b)(k:Nat)(I:k<=100000)(d:m<=1048576) :
  cK (ι:=Vg k) X 100 [.e (.one (.ptr 0 0))] [lu m b k] (λq=>dS q.1.1) (λq=>[lu m b q.1.2]):=by
 refine cK.om Tryz.func100 rfl rfl rfl λD=>?_
 refine bk rfl av ?_;refine AK.cP (ez m b c k 5 (by omega) d (by omega)) [0] rfl (λ_=>rfl) ?_
 rintro⟨v,v0,v1⟩;refine bk rfl av ?_;refine AK.bO 1 (λs:Nat×Bs×Nat=>s.1<=4/\s.2.1.length+6*s.1<=24/\k<=s.2.2/\s.2.2+s.1<=k+5) (λs=>[(0,.e (.one (.ptr 0 0))),(4,dI s.1),(3,dS s.2.1)]) (λs=>[lu m b s.2.2]) (λs=>s.1) (v.toNat,[],k+1) rfl ?_ rfl ?_ rfl ⟨by omega,by grind,by simp,by grind⟩ ?_
 .simp[ag,ag.cat];omega
 .simp[ag,ag.cat,aP.same]
 rintro⟨n,s,k1⟩ ⟨C,A,z,E⟩;simp only at C A z E
 by_cases j:0<n
 .refine aX [(9,ab)] 100 rfl ?_ ?_
  .simp[ag,j]
  have:=L8 (X:=X) m b c k1 (by omega) d words (by decide)
  refine AK.mm this [0] rfl rfl rfl rfl ?_ rfl rfl rfl (λ_=>rfl) rfl (λ_=>rfl) rfl ?_
  .refine⟨rfl,λi hi=>?_⟩
   rcases i with _|_|_|_|_|_|_|_|i <;> first|rfl|omega
  rintro⟨p,g⟩;have t:p.length<=6:=(by decide:∀ p∈words,p.length<=6) p g
  refine bk rfl ?_ (AK.aQ (n-1,s++p,k1+1) rfl ?_ ?_ ?_ ?_)
  .simp[ag,bu];omega
  .simp[ag,ag.cat];omega
  .simp[ag,ag.cat,aP.same]
  .grind
  grind
 .obtain rfl:n=0:=by omega
  refine aX [(9,ae)] 100 rfl (by simp[ag]) (AK.leaveD rfl rfl ?_)
  refine bk rfl av ?_;refine AK.cP (ez m b c k1 4 (by omega) d (by omega)) [0] rfl (λ_=>rfl) ?_
  rintro⟨u,G,H⟩
  by_cases l:u=0
  .refine aX [(19,ab)] 100 rfl (by simp[ag,l]) ?_
   refine AK.cP (ez m b c (k1+1) 12 (by omega) d (by omega)) [0] rfl (λ_=>rfl) ?_
   rintro⟨w,J,w1⟩;refine bk rfl av ?_;refine AK.bO 1 (λs:Nat×Bs×Nat=>s.1<=11/\s.2.1.length+s.1<=36/\k<=s.2.2/\s.2.2+s.1<=k+20) (λs=>[(0,.e (.one (.ptr 0 0))),(5,dI s.1),(3,dS s.2.1)]) (λs=>[lu m b s.2.2]) (λs=>s.1) (w.toNat,s,k1+2) rfl ?_ rfl ?_ rfl ⟨by omega,by grind,by grind,by grind⟩ ?_
   .simp[ag,ag.cat];omega
   .simp[ag,ag.cat,aP.same];omega
   rintro⟨n,s2,f⟩ ⟨B,g2,g3,g4⟩;simp only at B g2 g3 g4
   by_cases j:0<n
   .refine aX [(23,ab)] 100 rfl ?_ ?_
    .simp[ag,j]
    refine AK.cP (ez m b c f 26 (by omega) d (by omega)) [0] rfl (λ_=>rfl) ?_
    rintro⟨x,K,F⟩;refine bk rfl ?_ (AK.aQ (n-1,s2++[UInt8.ofNat (97+x).toNat],f+1) rfl ?_ ?_ ?_ ?_)
    .simp[ag,bu];omega
    .simp[ag,ag.cat];omega
    .simp[ag,ag.cat,aP.same]
    .grind
    grind
   .obtain rfl:n=0:=by omega
    refine aX [(23,ae)] 100 rfl (by simp[ag]) (AK.leaveD rfl rfl ?_)
    refine aX [(36,ae)] 100 rfl ?_ ?_
    .simp[ag];omega
    refine AK.cP (ez m b c f 60 (by omega) d (by omega)) [0] rfl (λ_=>rfl) ?_
    rintro⟨y,r,o⟩
    by_cases h:y=0
    .refine aX [(41,ab)] 100 rfl ?_ (AK.lg ⟨(s2++[65],f+1),by grind,by grind,by grind⟩ (AK.dD [0] rfl ?_ rfl rfl rfl wQ))
     .simp[ag,h];omega
     .simp[ag]
    by_cases a:y=1
    .refine aX [(41,ae),(45,ab)] 100 rfl ?_ ?_
     .simp[ag,a]
     refine AK.cP (Gr [97,98,99,100,101] 9 (by decide) (by decide)) [] rfl (λ_=>rfl) ?_
     rintro⟨p,g⟩;refine bk rfl av (AK.lg ⟨(p,f+1),g,by grind,by grind⟩ (AK.dD [0] rfl ?_ rfl rfl rfl wQ))
     simp[ag]
    .refine aX [(41,ae),(45,ae)] 100 rfl ?_ (AK.lg ⟨(s2,f+1),by grind,by grind,by grind⟩ (AK.dD [0] rfl ?_ rfl rfl rfl wQ))
     .simp[ag,h,a]
     .simp[ag]
  .refine aX [(19,ae)] 2 rfl (by simp[ag,l]) ?_
   refine aX [(36,ae)] 100 rfl ?_ ?_
   .simp[ag];omega
   refine AK.cP (ez m b c (k1+1) 60 (by omega) d (by omega)) [0] rfl (λ_=>rfl) ?_
   rintro⟨y,r,o⟩
   by_cases h:y=0
   .refine aX [(41,ab)] 100 rfl ?_ (AK.lg ⟨(s++[65],(k1+1)+1),by grind,by grind,by grind⟩ (AK.dD [0] rfl ?_ rfl rfl rfl wQ))
    .simp[ag,h];omega
    .simp[ag]
   by_cases a:y=1
   .refine aX [(41,ae),(45,ab)] 100 rfl ?_ ?_
    .simp[ag,a]
    refine AK.cP (Gr [97,98,99,100,101] 9 (by decide) (by decide)) [] rfl (λ_=>rfl) ?_
    rintro⟨p,g⟩;refine bk rfl av (AK.lg ⟨(p,(k1+1)+1),g,by grind,by grind⟩ (AK.dD [0] rfl ?_ rfl rfl rfl wQ))
    simp[ag]
   .refine aX [(41,ae),(45,ae)] 100 rfl ?_ (AK.lg ⟨(s,(k1+1)+1),by grind,by grind,by grind⟩ (AK.dD [0] rfl ?_ rfl rfl rfl wQ))
    .simp[ag,h,a]
    .simp[ag]
def OW(m:Nat)(b:Nat->Int)(d:m<=1048576):cK (ι:={ n:Nat // n<=1048576 }) X 12 [.e (.one (.c (.sl ae 1 m (R5 b))))] [] (λ_=>.e (.one (.ptr 0 0))) (λn=>[lu n.1 b 0]):=by
 refine cK.om Tryz.func12 rfl rfl rfl λf=>?_
 by_cases h:2000<m
 .refine aX [(5,ab)] 100 rfl ?_ (AK.norm [lu 2000 b 0] rfl ?_ (AK.lg ⟨2000,by decide⟩ (AK.dD [0] rfl ?_ rfl rfl rfl (λj a=>by simp at a))))
  .simp[ag];omega
  .simp[ag,ag.cat,aP,jK,cr]
  .simp[ag]
 .refine aX [(5,ae)] 100 rfl ?_ (AK.lg ⟨m,d⟩ (AK.dD [0] rfl ?_ rfl rfl rfl (λj a=>by simp at a)))
  .simp[ag];omega
  .simp[ag]
end
end Go.AM.R1
namespace Go.AM
def IZ(p:Bs):ak:=.string ⟨p.toArray⟩
def Sr{a:ByteArray}{p:Bs}(h:a.data.toList=p):Value.string a=IZ p:=by
 subst h;simp[IZ]
theorem str_val{M:Mem}{v:ak}{p:Bs}(h:Rd M v (.str p)):v=IZ p/\cX v=ab:=by
 cases h with
 |str e _=>exact⟨Sr e,rfl⟩
end Go.AM
namespace Go.AM.R1
section
open Go.Proofs
variable {X:Cx ah} [X.js]
def Ss(t:List bA):∀ i,i<t.length->(cF.fn t i).length=2/\∀ c∈cF.fn t i,vq c=ab:=by
 intro i _;refine⟨rfl,λc a=>?_⟩
 simp only[hU.fn,sH,cF,e9,rf,or_false] at a;rcases a with rfl|rfl <;> rfl
abbrev Mb(t:List bA)(xs:List ak):Prop:=dZ 2 t.length (cF.fn t) xs
abbrev bK(bf:qT)(n:Nat)(xs:List ak):aV:=.dz (hJ 60 2 bf n xs)
abbrev tKB(bf:qT)(n:Nat)(b:Bool):D:=.eJ [.one (.v (lB bf n)),.one (.c (.bool b))]
def CW(t:List bA)(p x:Bs):cK (ι:={ q:qT×List ak // Mb (fC t p x).1 q.2 }) X 98 [cF.sl t,dS p,dS x] [] (λq=>tKB q.1.1 (fC t p x).1.length (fC t p x).2) (λq=>[bK q.1.1 (fC t p x).1.length q.1.2]) :=
 (uk t p x).thaw Tryz.func98 rfl (by simp[Aa,o8,r7,nW,vr,vq]) (Ss _)
def dZ.nil{k:Nat}{es:Nat->List C}:dZ k 0 es []:=⟨by simp,λi hi=>by omega,λi hi=>by omega⟩
def Im{t:List bA}{p x:Bs}(h:(fC t p x).2=ab):(fC t p x).1.length<=6:=by
 unfold fC at h ⊢;split at h
 .rename_i b
  rw[bc b];split at h
  .rename_i a;rw[bc a];exact xi a
  grind
 grind
def Vh{o:aw}{x y:an}(h:o.op=.call { callee:=.builtin .append,args:=#[x,y],argTypes:=#[38,38] }):mg ah o x y 60 i60 :=
 ⟨⟨38,38,i38,i38,h,Ym,rfl,Ym,rfl⟩,g60,by decide,by decide⟩
def Mc{M:Mem}{p:Bs}(h:p.length<=9223372036854775807):Rd M (IZ p) (.str p):=Rd.str rfl h
def Mb.snoc{t:List bA}{xs:List ak}(h:Mb t xs)(p x:Bs)(b:p.length<=9223372036854775807)(d:x.length<=9223372036854775807):Mb (t++[(p,x)]) (xs++[IZ p,IZ x]):=by
 unfold Mb;rw[bP];refine dZ.snoc h (λi hi=>?_) rfl rfl λq c a=>?_
 .simp[hU.fn,sH,ai,jD hi]
 .have e:cF.fn (t++[(p,x)]) t.length=[.str p,.str x]:=by
   simp[hU.fn,sH,cF]
  rw[e] at a;rcases q with _|_|q
  .simp at a;subst a;exact⟨IZ p,rfl,λM=>Mc b⟩
  .simp at a;subst a;exact⟨IZ x,rfl,λM=>Mc d⟩
  grind
def Mb.OX{t:List bA}{xs vs:List ak}(h:Mb t xs)(i:Nat)(hi:i<t.length)(x:Bs)(d:mN vs [.c (.str x)]):Mb (t.set i ((t.getD i cF.bD).1,x)) (xs.take (i*2+1)++vs++xs.drop (i*2+1+vs.length)):=by
 unfold Mb;rw[pH];refine dZ.eU h i 1 hi d (bg _) (λg f b=>?_) rfl λq c a=>?_
 .simp[hU.fn,sH,ai,mf b]
 .have e:cF.fn (t.set i ((t.getD i cF.bD).1,x)) i=[.str (t.getD i cF.bD).1,.str x]:=by
   simp[hU.fn,sH,cF,ai,hi]
  rw[e] at a;rcases q with _|_|q
  .right;simp at a;subst a;exact⟨by omega,rfl⟩
  .grind
  grind
def adW:∀ j,j<1->([0,1]:List Nat)[j]?=aa j:=λj a=>by
 grind
structure CX (k c:Nat) where
 t:List bA
 bf:qT
 xs:List ak
 k1:Nat
 fl:Mb t xs
 hl:t.length<=7
 h1:k<=k1
 h2:k1<=k+c
set_option maxRecDepth 20000 in
def OY(m:Nat)(b:Nat->Int)(i:Bytes b)(k:Nat)(V:k<=50000)(r:m<=1048576) :
  cK (ι:=CX k 400) X 58 [.e (.one (.ptr 0 0))] [lu m b k] (λq=>.e (.one (.v (lB q.bf q.t.length)))) (λq=>[lu m b q.k1,bK q.bf q.t.length q.xs]):=by
 refine cK.om Tryz.func58 rfl rfl rfl λL=>?_
 refine aX [] 9 rfl av ?_;refine AK.Nl 3 60 2 rfl λB=>?_
 refine bk rfl av ?_;refine AK.cP (ez m b i k 6 (by omega) r (by omega)) [0] rfl (λ_=>rfl) ?_
 rintro⟨v,v0,v1⟩;refine bk rfl av ?_;refine AK.bO 2 (λs:Nat×List bA×qT×List ak×Nat=>s.1<=5/\Mb s.2.1 s.2.2.2.1/\s.2.1.length<=6/\k<=s.2.2.2.2/\s.2.2.2.2+70*s.1<=k+351) (λs=>[(0,.e (.one (.ptr 0 0))),(4,dI s.1),(3,.e (.one (.v (lB s.2.2.1 s.2.1.length))))]) (λs=>[lu m b s.2.2.2.2,bK s.2.2.1 s.2.1.length s.2.2.2.1]) (λs=>s.1) (v.toNat,[],B,[],k+1) rfl ?_ rfl ?_ rfl ⟨by omega,dZ.nil,by simp,by simp,by grind⟩ ?_
 .simp[ag,ag.cat];omega
 .simp[ag,ag.cat,aP.same]
 rintro⟨n,t,bf,xs,k1⟩ ⟨J,f,I,P,Q⟩;simp only at J f I P Q
 by_cases K:0<n
 .refine aX [(11,ab)] 100 rfl (by simp[ag,K]) ?_
  refine AK.cP (Gq m b i k1 (by omega) r) [0] rfl (λ_=>rfl) ?_
  rintro⟨p,G⟩;refine bk rfl av ?_;refine AK.cP (OV m b i (k1+1+1) (by omega) r) [0] rfl (λ_=>rfl) ?_
  rintro⟨⟨x,E⟩,H,A,o⟩;simp only at H A o;refine bk rfl av ?_;refine AK.Jf (CW t p x) 1 0 rfl rfl rfl rfl (hJ.Fs rfl (cF.fn t) f.rd) rfl ?_ rfl (λ_=>rfl) (λ_=>rfl) rfl ?_
  .simp[ag,ag.cat,aP.same]
  rintro⟨⟨d,xs'⟩,w⟩;simp only at w ⊢;cases z:(fC t p x).2 with
  |true =>
   have D:=Im z;generalize (fC t p x).1=t' at w D ⊢;refine aX [] 6 rfl av ?_;refine AK.swap 1 2 (by decide) rfl rfl (λv N h=>h.1) (λv N h=>h.1) ?_
   refine aX [(23,ab)] 100 rfl ?_ (AK.aQ (n-1,t',d,xs',E) rfl ?_ ?_ ?_ ?_)
   .simp[ag,bu];omega
   .simp[ag,ag.cat];omega
   .simp[ag,ag.cat,aP.same]
   .grind
   grind
  |false =>
   refine aX [(23,ae)] 100 rfl ?_ (AK.aQ (n-1,t,bf,xs,E) rfl ?_ ?_ ?_ ?_)
   .simp[ag,bu];omega
   .simp[ag,ag.cat];omega
   .simp[ag,ag.cat,aP.same]
   .grind
   grind
 .obtain rfl:n=0:=by omega
  refine aX [(11,ae)] 100 rfl (by simp[ag]) (AK.leaveD rfl rfl ?_)
  refine bk rfl av ?_;refine AK.cP (ez m b i k1 40 (by omega) r (by omega)) [0] rfl (λ_=>rfl) ?_
  rintro⟨u,S,T⟩
  by_cases F:u=0
  .refine aX [(27,ab)] 100 rfl (by simp[ag,F]) ?_
   refine AK.cP (Gq m b i (k1+1) (by omega) r) [0] rfl (λ_=>rfl) ?_
   rintro⟨p,G⟩;refine bk rfl av ?_;refine AK.Dz (l:=1) (bf:=bf) (xs:=xs) (n:=t.length) (xv:=[IZ p,IZ [97]]) (Vh rfl) rfl rfl rfl rfl rfl rfl rfl rfl (λM v j c R U=>?_) (by show _*32<=_;omega) λd=>?_
   .grind [str_val]
   refine bk rfl av (AK.lg ⟨t++[(p,[97])],d,xs++[IZ p,IZ [97]],k1+1+1+1,f.snoc p [97] (by omega) (by decide),by grind,by omega,by omega⟩ (AK.dD [0,1] rfl ?_ ?_ rfl rfl ?_))
   .simp[ag]
   .simp;rfl
   grind
  by_cases a:u=1
  .by_cases y:0<t.length
   .refine AK.Jg (hJ.len (l:=1) rfl) λC=>?_
    obtain⟨O,cap,rfl⟩:=C.2.2.1 y;refine aX [(27,ae),(35,ab),(39,ab)] 100 rfl ?_ ?_
    .simp[ag,y,a];omega
    refine AK.DF tok 1 rfl rfl rfl rfl rfl rfl rfl ?_ rfl rfl λvs MS=>?_
    .grind
    have g:=f.OX 0 y [65] MS;refine bk rfl av (AK.lg ⟨t.set 0 ((t.getD 0 cF.bD).1,[65]),.row O cap,_,k1+1,g,by grind,by omega,by omega⟩ (AK.dD [0,1] rfl ?_ ?_ rfl rfl ?_))
    .simp[ag]
    .simp;rfl
    grind
   .cases bf
    all_goals
     refine aX [(27,ae),(35,ab),(39,ae)] 100 rfl ?_ (AK.lg ⟨t,_,xs,k1+1,f,by omega,by omega,by omega⟩ (AK.dD [0,1] rfl ?_ rfl rfl rfl ?_))
     .simp[ag,y,a] <;> omega
     .simp[ag]
     grind
  .refine aX [(27,ae),(35,ae)] 100 rfl (by simp[ag,F,a]) (AK.lg ⟨t,bf,xs,k1+1,f,by omega,by omega,by omega⟩ (AK.dD [0,1] rfl ?_ rfl rfl rfl ?_))
   .simp[ag]
   grind
end
end Go.AM.R1
namespace Go.AM
section
open Go.Conc (G)
section
variable {P:aq}{X:Cx P}{N:Nat}{ops:Array aw}{φ:Fr}{σ:List aV}{x:Nat->D}{S:(Nat->Bool)->List aV}
def oX:List aw->List (List Bool)->List (List Bool)
 |[],a=>a
 |o::r,a=>pW (Fx a (bR o.after.toList)) λc=>oX r (a++[c])
 where pW:List Bool->(List Bool->List (List Bool))->List (List Bool)
 |[],q=>q []
 |true::r,q=>pW r λr=>q (ab::r)
 |false::r,q=>pW r λr=>q (ae::r)
def nT:∀ (l:List Bool)(q:List Bool->List (List Bool)),oX.pW l q=q l
 |[],q=>rfl
 |true::r,q=>by simp only[oX.pW];rw[nT r]
 |false::r,q=>by simp only[oX.pW];rw[nT r]
def BE{all:List aw}{D:Nat->Bool}(b:∀ (j:Nat)(o:aw),all[j]?=aa o->D j=ab->∀ e∈bR o.after.toList,D e=ab) :
  ∀ (r:List aw) (a:List (List Bool)),(∀ k,r[k]?=all[a.length+k]?)->(∀ (j:Nat) (c:List Bool),a[j]?=aa c->∀ o,all[j]?=aa o->(∀ e∈bR o.after.toList,D e=ab)->∀ q,bit c q=ab->D q=ab) ->
   ∀ (j:Nat) (c:List Bool),(oX r a)[j]?=aa c->∀ o,all[j]?=aa o->(∀ e∈bR o.after.toList,D e=ab)->∀ q,bit c q=ab->D q=ab
 |[],a,_,h=>h
 |o::r,a,d,h=>by
  simp only[oX];rw[nT];refine BE b r _ (λk=>?_) ?_
  .have:=d (k+1)
   grind
  .intro j c l;have i:=d 0;simp only[kW,iN] at i;rcases Nat.lt_trichotomy j a.length with f|rfl|g
   .grind
   .rw[gh (bg _)] at l
    grind [zG]
   grind
def hO(all:List aw)(i j:Nat):Bool:=match (oX all [])[i]? with|some c=>bit c j|none=>ae
def vU{all:List aw}{D:Nat->Bool}(a:∀ (j:Nat)(o:aw),all[j]?=aa o->D j=ab->∀ e∈bR o.after.toList,D e=ab):∀ (i:Nat) o,all[i]?=aa o->(∀ e∈bR o.after.toList,D e=ab)->∀ j,hO all i j=ab->D j=ab:=by
 intro i o d f j b;unfold hO at b;split at b
 .rename_i c g
  exact BE a all [] (by simp) (by simp) i c g o d f j b
 .cases b
def FE{all:List aw}{D:Nat->Bool}(c:∀ (j:Nat)(o:aw),all[j]?=aa o->D j=ab->∀ e∈bR o.after.toList,D e=ab){i:Nat}(f:D i=ae):∀ j,(j=i∨hO all j i=ab)->D j=ae:=by
 intro j g;rcases g with rfl|g
 .exact f
 .cases h:D j with
  |false=>rfl
  |true =>
   have a:∃ d,all[j]?=aa d:=by
    cases a:all[j]? with
    |some d=>exact⟨d,rfl⟩
    |none =>
     exfalso;have k:(oX all []).length=all.length:=by
      have:∀ (r:List aw) (b:List (List Bool)),(oX r b).length=b.length+r.length:=by
       intro r
       induction r with
       |nil=>intro b;simp[oX]
       |cons o r l=>intro b;simp only[oX];rw[nT,l];simp;omega
      simpa using this all []
     unfold hO at g
     grind
   obtain⟨d,a⟩:=a;have:=vU c j d a (c j d a h) i g;rw[f] at this;cases this
def bS{P:aq}(X:Cx P)(N:Nat)(all:List aw)(φ:Fr)(x:Nat->D)(S:(Nat->Bool)->List aV)(i:Nat)(o:aw):Prop :=
 ∀ D:Nat->Bool,(∀ j,hO all i j=ab->D j=ab)->(∀ j,(j=i∨hO all j i=ab)->D j=ae)->OA X N all o (mU all φ x i) (S D) (x i) (S (fb i D))
def JH{P:aq}(X:Cx P)(N:Nat)(all:List aw)(φ:Fr)(x:Nat->D)(S:(Nat->Bool)->List aV):List aw->Nat->Prop
 |[],_=>True
 |o::r,i=>bS X N all φ x S i o/\JH X N all φ x S r (i+1)
theorem JH.get{all:List aw}:∀ {l:List aw}{k:Nat},JH X N all φ x S l k->∀ i o,l[i]?=aa o->bS X N all φ x S (k+i) o
 |[],_,_,i,o,h=>by simp at h
 |p::r,k,h,0,o,a=>by simp at a;subst a;exact h.1
 |p::r,k,h,i+1,o,a=>by
  have:=JH.get h.2 i o (by simpa using a)
  grind
def AK.flags{ops:Array aw}{id:Nat}{K:List It}{Qf:Post}(j:P.follows Departure.mixedOrders=ab)(x:Nat->D)(S:(Nat->Bool)->List aV)(l:S (λ_=>ae)=σ)
  (a:mo ops.toList=ab) (b:rV ops.toList 0=ab) (c:nS N ops.toList=ab) (one:JH X N ops.toList φ x S ops.toList 0)
  (k:∀ D,(∀ i,i<ops.toList.length->D i=ab)->AK X N Qf K .normal (MT ops.toList φ x) (S D)):AK X N Qf (.code (.region id ops ab)::K) .normal φ σ:=by
 have:=AW.reg (X:=X) (N:=N) (φ:=φ) (σ:=σ) j (all:=ops.toList) ops.toList.length (λ_:Unit=>x) (λ_=>S) (λ_ _=>True) () av l a b c (bg _)
  (λi h1 h2=>absurd h2 (ky.2 h1)) (λh D _ _ i h1 h2=>absurd h2 (ky.2 h1))
  (λh D i o _ g _ f e d=>by
   have h1:=one.get i o g;rw[bt] at h1;exact(h1 D (vU d i o g e) (FE d f)).Bc ⟨(),λ_ _=>rfl,av⟩ rfl rfl)
  (Q:=AK X N Qf K) (λh D _ m=>by
   rw[pF];exact .nil (k D m)) id
 rw[oH] at this;exact this
end
end
end Go.AM
namespace Go.AM.R1
section
open Go.Proofs
def iC(a:List D)(res:D):dh:=λargs σ=>match σ with|[]=>aa (res,[],[args=a])|_=>af
def ja{X:Cx ah}{f:aW}{a:List D}{res:D}(h:Ev X f a [] res []):dG X f (iC a res):=by
 intro args σ r σ' obs he ho;unfold iC at he;split at he
 .cases he;have:args=a:=ho;subst this;exact h
 .cases he
variable {X:Cx ah} [X.js]
end
end Go.AM.R1
namespace Go.AM
def cK.die{P:aq}{ι:Type}{X:Cx P}{f:aW}{args:List D}{E k n:Nat}{b:Nat->List C}{w:BP}{es:ι->Nat->List C}{m:ι->Nat}(h:cK X f args [.buf E k n b] (λ_=>.e (.one (.bp 0 w))) (λi=>[.buf E k (m i) (es i)])):Ev X f args [.buf E k n b] (.e (.one (.bp 0 w))) [.dead] :=
 ⟨h.1,λs vs hr hh S cs hS=>h.2 s vs hr hh S cs λi fr v s' hl mL k9 st=>hS fr v s' hl (by
  obtain⟨lv,h1,_,_⟩:gv _ _ _ (.bp 0 w):=mL;exact(⟨lv,h1,by simp,λ_ _ _ _ hb=>by grind⟩:gv [.dead] s' v (.bp 0 w))) k9.lC
  ⟨st.size,st.eL,st.mem,st.jA,st.xx,λl B L a c=>by
   obtain⟨B',L',h1,h2,d⟩:=st.box l B L a c;cases l with
   |zero=>simp at a;subst a;exact⟨.dead,L',rfl,h2,av⟩
   |succ l=>grind,st.os,st.tape,st.output,st.own⟩⟩
namespace R1
open Go.Proofs
variable {X:Cx ah}
def EO(h:sr):Ev X 51 [Yh h] [] (dB (gq h)) []:=by
 refine Ev.bQ Tryz.func51 rfl λb=>?_
 have a:bC X []:=.nil;unfold gq
 by_cases c1:h.1=1
 .by_cases c3:1<=h.2
  .exact aD a [(6,ab),(11,ab),(16,ab)] 100 rfl (by simp[ag,c1,c3]) (AK.bm rfl (by simp[ag,c1,c3]))
  .exact aD a [(6,ab),(11,ab),(16,ae)] 100 rfl (by simp[ag,c1];omega) (AK.bm rfl (by simp[ag,c3]))
 .by_cases c2:h.1=2
  .by_cases c3:1<=h.2
   .exact aD a [(6,ae),(11,ab),(16,ab)] 100 rfl (by simp[ag,c2,c3]) (AK.bm rfl (by simp[ag,c2,c3]))
   .exact aD a [(6,ae),(11,ab),(16,ae)] 100 rfl (by simp[ag,c2];omega) (AK.bm rfl (by simp[ag,c3]))
  .exact aD a [(6,ae),(11,ae),(16,ae)] 100 rfl (by simp[ag,c1,c2]) (AK.bm rfl (by
    have:¬(1<=h.1/\h.1<=2):=by omega
    simp only[ag,eu this];simp))
def H5(h:sr):Ev X 50 [Yh h] [] (dB (!gq h)) []:=by
 refine Ev.bQ Tryz.func50 rfl λb=>?_
 have a:bC X [(51,jX S6 (λh=>dB (gq h)) λ_=>[])]:=.cons (.oi λh _=>EO h) .nil
 exact aD a [] 100 rfl av (AK.bm rfl (by simp[ag]))
def H6(l:List sr):jy l=(decide (l.length<=9)&&!l.any λh=>!gq h):=by
 have:(bh l.length).all (λi=>gq (l.getD i (0,0)))=!l.any λh=>!gq h:=by
  rw[md,cd,ji,List.any_eq_false]
  grind [List.mem_iff_getElem]
 rw[jy,this,Bool.and_comm]
def H7(l:List sr):Ev X 27 [cH.sl l] [] (dB (jy l)) []:=by
 refine Ev.bQ Tryz.func27 rfl λd=>?_
 have a:=Lw (X:=X) l 50 (λh=>!gq h) λx _=>H5 x
 have b:bC X [(49,iC [cH.sl l,.e (.one (.c (.fn (.func 50) [] [])))] (dB (l.any λh=>!gq h)))]:=.cons (ja a) .nil
 rw[H6]
 by_cases h:l.length<=9
 .exact aD b [(6,ab)] 100 rfl ⟨rfl,cj (by omega)⟩ (AK.bm rfl (by simp[ag,h]))
 .exact aD b [(6,ae)] 100 rfl (by simp[ag];omega) (AK.bm rfl (by simp[ag,eu h]))
def su:dG X 27 lH:=.oi λl _=>H7 l
def AQ(p:bw)(f:p.2.length<=4000000):Ev X 188 [xM p] [] (cI.sl (p.2.map (·.1))) []:=by
 refine Ev.bQ Tryz.func188 rfl λd=>?_
 refine aX [(1000002,ab)] 100 rfl av ?_;refine AK.ir 3 3 1 rfl rfl ?_;refine bk rfl av ?_;refine AK.bO 2 (λi=>i<=p.2.length) (λi:Nat=>[(1,.e (.one (.ptr 0 0))),(3,.e (.one (.vec 1 1 i (cI.fn ((p.2.take i).map (·.1)))))),(7,dE.sl p.2),(8,dI p.2.length),(9,dI i)]) (λi=>[OM p,.vec 3 1 i (cI.fn ((p.2.take i).map (·.1)))]) (λi=>p.2.length-i) 0 rfl (by simp[ag.cat,ag,aP.same,aP.nil]) rfl (by simp[ag.cat,ag,aP.same,aP.nil]) rfl (by omega) ?_
 intro i hi
 by_cases h:i<p.2.length
 .have b:p.2.getD (i:Int).toNat dE.bD=fV p i:=by grind
  have a:(p.2.take (i+1)).map (·.1)=(p.2.take i).map (·.1)++[(fV p i).1]:=by grind [bq]
  have c:((p.2.take i).map (·.1)).length=i:=by grind
  have e:=cI.cn ((p.2.take i).map (·.1)) (fV p i).1;rw[c] at e;refine aX [(10,ab)] 100 rfl ?_ (AK.aQ (i+1) rfl ?_ ?_ h (by omega))
  .simp only[ag,bu,show i3.bytes=8 from rfl];grind
  .rw[a];simp only[ag.cat,ag,b,aF,aC];and_intros <;> first|exact aP.same|exact e|rfl|omega
  .rw[a];simp only[ag.cat,ag,b,aF,aC];and_intros <;> first|exact aP.same|exact e|rfl|omega
 obtain rfl:i=p.2.length:=by omega
 rw[b6];refine aX [(10,ae)] 100 rfl (by simp[ag]) (AK.leaveD rfl rfl ?_)
 exact bk rfl av (AK.bm rfl (by simp[ag,ag.cat,aP.same]))
abbrev CL:dh:=jX (Hf dE) (λp=>cI.sl (p.2.map (·.1))) λp=>[p.2.length<=4000000]
def LP:dG X 188 CL:=.oi λp h=>AQ p h
def H8(ps:List bw)(i:Nat):(bY (ps.take i)).length<=(bY ps).length:=by
 have:bY ps=bY (ps.take i)++bY (ps.drop i):=by unfold bY;grind [List.take_append_drop]
 grind
abbrev Yj(l:List Int):D:=.e (.one (.bp 0 (.sl l.length 1 0 l.length)))
def CM(ps:List bw)(m:∀ p∈ps,p.2.length<=4000000)(q:(bY ps).length<=4000000):Ev X 162 [cP.sl ps] [] (Yj (bY ps)) [H9 (bY ps).length (bY ps)]:=by
 refine Ev.bQ Tryz.func162 rfl λl=>?_
 have k:=l.sl 0 rfl;have c:bC X [(188,CL)]:=.cons LP .nil;refine aD c [(1000002,ab)] 100 rfl av ?_;refine AK.Rn 3 3 1 (cI.fn []) rfl ?_;refine aD c [] 100 rfl av ?_;refine AK.bO 1 (λi=>i<=ps.length) (λi:Nat=>[(3,.e (.one (.bp 0 (.sl (bY (ps.take i)).length 1 0 (bY (ps.take i)).length)))),(6,cP.sl ps),(7,dI ps.length),(8,dI i)]) (λi=>[H9 (bY (ps.take i)).length (bY (ps.take i))]) (λi=>ps.length-i) 0 rfl (by simp[ag.cat,ag,aP.same,bY]) rfl (by simp[ag.cat,ag,aP,bY]) rfl (by omega) ?_
 intro i hi
 by_cases h:i<ps.length
 .have g:ps.getD (i:Int).toNat cP.bD=ps.getD i (0,[]):=by grind
  have b:=w8 h;have f:=H8 ps (i+1);have n:=m _ (iD (d:=(0,[])) h);generalize ps.getD i (0,[])=p at *;rw[b] at f;generalize bY (ps.take i)=a at *;have e:=cI.LQ a (p.2.map (·.1)) _ rfl;simp only[bP,kZ] at f e;refine aD c [(9,ab)] 100 rfl ?_ (AK.aQ (i+1) rfl ?_ ?_ h (by omega))
  .simp only[ag,g,bu,dE.list_fn,dE.aH,kZ,show i3.bytes=8 from rfl];grind
  .rw[b];simp only[ag.cat,ag,g,dE.list_fn,bP,kZ,aF,aC];and_intros <;> first|exact aP.same|rfl|omega
  .rw[b];simp only[ag.cat,ag,g,dE.list_fn,bP,kZ,aF,aC];grind
 obtain rfl:i=ps.length:=by omega
 rw[b6];refine aD c [(9,ae)] 100 rfl (by simp[ag]) (AK.leaveD rfl rfl ?_)
 refine aD c [] 100 rfl av (AK.dD [0] rfl ?_ rfl rfl rfl (λj o=>absurd o (by simp)))
 simp[ag]
def Ia(ps:List bw)(b:∀ p∈ps,p.2.length<=4000000)(a:(bY ps).length<=4000000):Ev X 162 [cP.sl ps] [] (cI.sl (bY ps)) [] :=
 Ev.iY (σ1:=[]) (E:=3) (k:=1) (n:=(bY ps).length) (es:=cI.fn (bY ps)) (CM ps b a) rfl (by simp[ag]) rfl (bg _)
end R1
section
variable {P:aq}{X:Cx P}{N:Nat}{all:List aw}{φ:Fr}{x:Nat->D}{k:Bool->Bool->Bool->List aV}{i g b f:Nat}{o:aw}
abbrev tU(k:Bool->Bool->Bool->List aV)(g b f:Nat):(Nat->Bool)->List aV:=λD=>k (D g) (D b) (D f)
def lG{i j:Nat}{D:Nat->Bool}(h:aG j i=ae):fb i D j=D j:=by simp only[fb,h]
def AD{i:Nat}{D:Nat->Bool}:fb i D i=ab:=by simp only[fb,iM]
def bS.q3(h1:aG g i=ae)(h2:aG b i=ae)(e:aG f i=ae)(h:∀ a c d,OA X N all o (mU all φ x i) (k a c d) (x i) (k a c d)):bS X N all φ x (tU k g b f) i o:=by
 intro D _ _;show OA X N all o _ (k (D g) (D b) (D f)) _ (k (fb i D g) (fb i D b) (fb i D f));rw[lG h1,lG h2,lG e];exact h _ _ _
def bS.e1(hi:aG g i=ab)(h1:aG g i=ab)(h2:aG b i=ae)(a:aG f i=ae)(h:∀ c d,OA X N all o (mU all φ x i) (k ae c d) (x i) (k ab c d)):bS X N all φ x (tU k g b f) i o:=by
 intro D _ j;have e:=bU hi;subst e;show OA X N all o _ (k (D g) (D b) (D f)) _ (k (fb g D g) (fb g D b) (fb g D f));rw[AD,lG h2,lG a,j g (.inl rfl)];exact h _ _
def bS.e2(hi:aG b i=ab)(h1:aG g i=ae)(d:aG f i=ae)(hb:hO all f i=ab)(j:aG b i=ab)(h:∀ a,OA X N all o (mU all φ x i) (k a ae ae) (x i) (k a ab ae)):bS X N all φ x (tU k g b f) i o:=by
 intro D _ c;have e:=bU hi;subst e;show OA X N all o _ (k (D g) (D b) (D f)) _ (k (fb b D g) (fb b D b) (fb b D f));rw[AD,lG h1,lG d,c b (.inl rfl),c f (.inr hb)];exact h _
def bS.e3(hi:aG f i=ab)(h1:aG g i=ae)(h2:aG b i=ae)(hb:hO all i b=ab)(j:aG f i=ab)(h:∀ a,OA X N all o (mU all φ x i) (k a ab ae) (x i) (k a ab ab)):bS X N all φ x (tU k g b f) i o:=by
 intro D d c;have e:=bU hi;subst e;show OA X N all o _ (k (D g) (D b) (D f)) _ (k (fb f D g) (fb f D b) (fb f D f));rw[AD,lG h1,lG h2,c f (.inl rfl),d b hb];exact h _
end
namespace R1
open Go.Proofs
variable {X:Cx ah} [X.js]
end R1
end Go.AM
namespace Go.AM.R1
section
open Go.Proofs
section
variable {X:Cx ah}
set_option maxRecDepth 20000 in
def RY(m:Nat)(b:Nat->Int)(a:Bytes b)(k:Nat)(d:k<=4000000)(c:m<=1048576)(l:List Bs)(g:1<=l.length/\l.length<=1000) :
  Ev X 101 [.e (.one (.ptr 0 0)),cS.sl l] [lu m b k] (dS (l.getD (oo m b k l.length).toNat [])) [lu m b (k+1)]:=by
 refine Ev.bQ Tryz.func101 rfl λf=>?_
 refine bk rfl av ?_;refine AK.cQ (pg m b a k l.length d c (by omega)) [0] rfl ?_
 have h:=kS m b k l.length (by omega)
 refine bk rfl ?_ (AK.dD [0] rfl ?_ rfl rfl rfl wQ)
 .simp[ag];omega
 .rfl
end
end
section
open Go.Proofs
def wR(a:List D)(σ0:List aV)(res:D)(σ1:List aV):dh:=λargs σ=>aa (res,σ1,[args=a,σ=σ0])
def yG{X:Cx ah}{f:aW}{a:List D}{σ0 σ1:List aV}{res:D}(h:Ev X f a σ0 res σ1):dG X f (wR a σ0 res σ1):=by
 intro args σ r σ' obs he ho;cases he;obtain⟨b,c⟩:args=a/\σ=σ0:=ho;subst b c;exact h
variable {X:Cx ah} [X.js]
end
section
open Go.Proofs
variable {X:Cx ah}
def EP(s:aZ):Ev X 105 [eH s] [] (eH s) []:=by
 refine Ev.fY Tryz.func105 rfl rfl rfl λb=>?_
 refine bk rfl (by simp[ag]) ?_
 refine AK.freeze 2 1 rfl rfl rfl ?_;exact AK.iQ tok [] rfl (by simp[ag,ag.cat,aP.same]) rfl rfl rfl (λj a=>absurd a (by simp))
abbrev LR:dh:=jX Oe (λs=>eH s) λ_=>[]
def Sm:dG X 105 LR:=.oi λs _=>EP s
abbrev IS(s:aZ):aV:=.cells 165 [.c (.sl ae 2 s.1.length (cP.fn s.1)),.c (.sl ae 2 s.2.1.length (cm.fn s.2.1)),.c (.sl ae 2 s.2.2.length (cH.fn s.2.2))]
structure Qa (s:aZ):Prop extends OR s where
 pk:∀ p∈s.1,p.2.length<=4000000
 nm:(bY s.1).length<=4000000
def yV(k:Int)(s:aZ):Bool:=(bh s.1.length).all (l7 k s.1)&&decide (s.1.length<=20)&&decide (bY s.1).Nodup
def ER(k:Int)(s:aZ)(w:ck k=ab)(g:Qa s):Ev X 106 [eH s,dI k] [] (dB (yV k s)) []:=by
 refine Ev.bQ Tryz.func106 rfl λE=>?_
 have F:=g.pN;have z:=g.pk;have x:=Ia (X:=X) s.1 g.pk g.nm;have n:bC X [(161,F4)]:=.cons Of .nil;refine aD n [] 100 rfl av ?_;unfold yV;refine AK.bO 1 (λi=>i<=s.1.length/\∀ j,j<i->l7 k s.1 j=ab) (λi:Nat=>[(1,dI k),(2,.e (.one (.ptr 0 0))),(9,cP.sl s.1),(10,dI s.1.length),(11,dI i)]) (λ_=>[IS s]) (λi=>s.1.length-i) 0 rfl (by simp[ag.cat,ag,aP.same]) rfl (by simp[ag.cat,ag,aP.same]) rfl ⟨by omega,by omega⟩ ?_
 rintro i ⟨hi,b⟩
 by_cases h:i<s.1.length
 .have v:s.1.getD i cP.bD=s.1.getD i (0,[]):=rfl;have r:s.1.getD (i-1) cP.bD=s.1.getD (i-1) (0,[]):=rfl;have a:l7 k s.1 i=(jo k (s.1.getD i (0,[]))&&CE (·.1) (0,[]) s.1 i):=rfl;have c:=mF (f:=λp:bw=>p.1) (d:=(0,[])) (l:=s.1) (i:=i)
  have m:=z _ (iD (d:=(0,[])) h);generalize s.1.getD i (0,[])=p at *;generalize s.1.getD (i-1) (0,[])=p' at *;cases q:jo k p with
  |false =>
   rw[q,pI] at a;refine aD n [(12,ab),(20,ab),(35,ab)] 100 rfl ?_ (AK.ei (b5.zero rfl ?_))
   .simp[-ai,ag,v,w,m,q,dE.list_fn,dE.aH];omega
   .rw[dY h a];simp[ag]
  |true =>
   rw[q,dJ] at a
   by_cases A:i=0
   .subst A;refine aD n [(12,ab),(20,ae),(23,ae),(35,ae)] 100 rfl ?_ (AK.aQ 1 rfl (by simp[ag.cat,ag,aP.same]) (by simp[ag.cat,ag,aP.same]) ⟨h,fg b (by rw[a];rfl)⟩ (by omega))
    simp[-ai,ag,v,w,m,q,dE.list_fn,dE.aH,bu];omega
   have c:=c A
   by_cases B:p'.1<p.1
   .refine aD n [(12,ab),(20,ae),(23,ab),(33,ae),(35,ae)] 100 rfl ?_ (AK.aQ (i+1) rfl (by simp[ag.cat,ag,aP.same]) (by simp[ag.cat,ag,aP.same]) ⟨h,fg b (by rw[a,c];exact cj B)⟩ (by omega))
    simp[-ai,ag,v,r,w,m,q,dE.list_fn,dE.aH,bu];omega
   .refine aD n [(12,ab),(20,ae),(23,ab),(33,ab),(35,ab)] 100 rfl ?_ (AK.ei (b5.zero rfl ?_))
    .simp[-ai,ag,v,r,w,m,q,dE.list_fn,dE.aH,bu];omega
    .rw[dY h (by rw[a,c];exact eu B)];simp[ag]
 obtain rfl:i=s.1.length:=by omega
 rw[cd.2 b,dJ];refine aD n [(12,ae)] 100 rfl (by simp[ag]) (AK.leaveD rfl rfl ?_)
 refine aD n [] 100 rfl av ?_;refine AK.cQ (CM s.1 g.pk g.nm) [] rfl ?_;refine aD n [] 100 rfl av ?_;refine AK.cQ (CN (bY s.1) g.nm) [1] rfl ?_;have D:=AR (bY s.1);have t:=(xc (X:=X) (mG (bY s.1)) (by rw[gH];exact g.nm)).die
 rw[gH] at t;have y:=sv (mG (bY s.1));rw[gH] at y;have C:=g.nm;generalize dL (mG (bY s.1))=cs at *;generalize mG (bY s.1)=so at *;have nY:bC X [(164,wR [kC (bY s.1).length] [H9 (bY s.1).length so] (.e (.one (.bp 0 (.sl (bY s.1).length 1 0 cs.length)))) [.dead]),(162,iC [cP.sl s.1] (cI.sl (bY s.1)))]:=.cons (yG t) (.cons (ja x) .nil);refine aD nY [(1000009,ab)] 100 rfl av ?_
 by_cases u:s.1.length<=20
 rotate_left
 .refine aD nY [(46,ae)] 100 rfl ?_ (AK.bm rfl ?_)
  .simp[ag];omega
  .simp[ag,u]
 have o:(s.1.length:Int)<=20:=by omega
 generalize G:bY s.1=N at *;refine AK.G7 (ι:=Unit) eh 6 (λi=>match bo i 5 with|true=>ab|false=>match aG i 8 with|true=>ab|false=>aG i 9) (λi=>[.e (.one (.ptr 0 0)),cP.sl s.1,dI s.1.length,dB (decide ((s.1.length:Int)<=20)),dB ab,.e (.one (.bp 1 (.sl N.length 1 0 N.length))),.any,.any,.e (.one (.ptr 0 0)),cP.sl s.1].getD i .any)
  (λ_ i=>[.any,.any,.any,.any,.any,.any,.e (.one (.bp 1 (.sl N.length 1 0 cs.length))),dI cs.length,.any,.any,cI.sl N,dI N.length,dB ((cs.length:Int)==N.length),dB ((cs.length:Int)==N.length),dB ((cs.length:Int)==N.length)].getD i .any) (λ_=>[IS s,.dead]) rfl rfl rfl rfl rfl rfl ?_ ?_ ?_ ?_
 .exact⟨.bM tok nY rfl,.bM tok nY rfl,.bM tok nY rfl,.bM tok nY rfl,.eval tok nY (ds:=[(46,ab)]) rfl (cj o),.bM tok nY rfl,av,av,.bM tok nY rfl,.bM tok nY rfl,av,av,av,av,av,av⟩
 .intro _;exact⟨.bM tok nY rfl,.bM tok nY rfl,.bM tok nY rfl,.bM tok nY rfl,.eval tok nY (ds:=[(46,ab)]) rfl (cj o),.bM tok nY rfl,av,.bM tok nY rfl,.bM tok nY rfl,.bM tok nY rfl,.eval tok nY (ds:=[]) rfl rfl,.bM tok nY rfl,.bM tok nY rfl,.bM tok nY rfl,.bM tok nY rfl,av⟩
 .exact .sZ (dW tok nY (ds:=[]) (σ':=aa [IS s,.dead]) rfl ⟨rfl,rfl⟩)
 .intro _;refine aD nY [] 100 rfl av (AK.bm rfl ?_);have:((cs.length:Int)==N.length)=decide N.Nodup:=by
   grind
  simp[ag,this,u]
end
structure lx (s:aZ):Prop where
 a1:s.1.length<=20
 a2:∀ p∈s.1,(1<=p.1/\p.1<=99)/\p.2.length<=4
 a3:s.2.1.length<=21
 a4:∀ x∈s.2.1,(1<=x.1/\x.1<=20)/\x.2.length<=6/\∀ y∈x.2,y.2.length<=40
 a5:s.2.2.length<=9
 a6:∀ h∈s.2.2,1<=h.2/\h.2<=20
def kq{α a:Type}{f:α->List a}{n:Nat}:∀ {l:List α},(∀ x∈l,(f x).length<=n)->(l.flatMap f).length<=n*l.length
 |[],_=>by simp
 |x::l,h=>by
  have c:=h x List.mem_cons_self;have d:=kq (l:=l) λy b=>h y (uN _ b)
  rw[List.flatMap_cons,bP,eZ,Nat.mul_succ];omega
def n7{x:cC}(h:x.2.length<=6/\∀ y∈x.2,y.2.length<=40):(cf x.2).length<=240:=by
 have:=kq (f:=λy:gD=>y.2) (n:=40) h.2
 unfold cf;omega
def lx.Yl{s:aZ}(h:lx s):Qa s:=by
 have h1:=h.a1;have d:=h.a3;have c:(bY s.1).length<=4*s.1.length:=kq λp a=>by rw[kZ];exact(h.a2 p a).2
 have e:(jz s.2.1).length<=240*s.2.1.length:=kq λx b=>n7 (h.a4 x b).2
 refine⟨⟨by omega,λx b=>?_,by omega,by omega⟩,λp a=>?_,by omega⟩
 .have:=(h.a4 x b).2
  grind
 .have:=(h.a2 p a).2;omega
def lx.LX{s:aZ}(h:lx s):dF s:=by
 have h1:=h.Yl;have a:=h.a5;exact⟨h1.pN,h1.pk,h1.sN,h1.sm,by omega⟩
def lx.OS{s:aZ}(h:lx s):RV s :=
 ⟨λx a=>by have:=(h.a2 x a).1;omega,λx a=>by have:=(h.a4 x a).1;omega,λx a=>by have:=h.a6 x a;omega⟩
def lx.fE{s:aZ}(h:lx s):(fE s.1).length<=100000:=by
 have h1:=h.a1;have:(R1.fE s.1).length<=4*s.1.length:=kq λp a=>by rw[kZ];exact(h.a2 p a).2
 omega
def AZ{k:Int}{x:cC}{ps:List bw}(h:(cx k x ps).isSome=ab):x.2.length<=6/\∀ y∈x.2,y.2.length<=40:=by
 unfold cx at h;split at h
 .rename_i a
  simp only[bL] at a;obtain⟨⟨_,f⟩,e⟩:=a;refine⟨?_,λy g=>?_⟩
  .simp only[dj,bL,ba,cV,kZ] at e;exact e.2
  .have b:=List.all_eq_true.1 f y g;unfold fileOf at b;split at b
   .cases b
   .rename_i l c
    split at b
    .cases b
    .rename_i t d
     have i:l.length=y.2.length:=by unfold en at c;split at c <;> cases c;simp
     unfold fO at d;split at d
     .rename_i a
      simp only[bL,gi,dX,ba] at a;have:=n5 l.flatten;rw[a.2] at this;omega
     .cases d
 .cases h
def tz.Vf{k:Int}{s:aZ}(h:tz k s):lx s:=by
 have hl:s.2.1.length<=20:=by
  have:=AV 1 h.sa λx a=>(h.sn x a).1
  omega
 have b:=h.log;simp only[jy,bL,ba,cd] at b;refine⟨h.len,λp c=>⟨(h.pk p c).no,(h.pk p c).len.2⟩,by omega,λx a=>⟨(h.sn x a).1,AZ (h.sn x a).2⟩,b.2,λq e=>?_⟩
 have:=(qd (p:=gq) (d:=(0,0))).1 b.1 q e;simp only[gq,bL,ba] at this;exact this.2
def LY{l:List (Int×Int)}(h:∀ x∈l,-4000000<=x.2/\x.2<=4000000):1<=po l:=(se l h).1
def LZ{s:aZ}(h:lx s):1<=fD s:=by
 have:=LY h.OS.h;unfold fD;split <;> omega
def L4{s:aZ}(h:lx s):1<=ix s:=by
 unfold ix;split
 .omega
 .rename_i a
  have:=(h.a2 _ (Ii a (0,[]))).1;omega
def lx.save{k:Int}{s:aZ}{t:List bA}{by_:Int}(h:lx s)(j:s.2.1.length<=20)(e:dj t=ab)(c:jY k s t=ae):lx (nj k s by_ t):=by
 simp only[jY,Bool.or_eq_false_iff,bJ] at c;obtain⟨n,o,p,m⟩:=c;have g:=LZ h;have q:=L4 h;have d:=uh.1 e;unfold nj;refine⟨by simp only[bP];omega,λx a=>?_,by grind,λx a=>?_,by grind,λx a=>?_⟩
 .rcases gA.1 a with a|a
  .exact h.a2 x a
  .obtain⟨b,r,a1,a2,a3,a4,a5,rfl⟩:=yY k _ _ _ (wP (k:=k) (l:=indexOf s.1) (ui e)).1 x a;have a2:b<ix s+(yD k s t).length:=a2;exact⟨⟨by show 1<=b;omega,by show b<=99;omega⟩,by rw[LU];exact a4⟩
 .rcases gA.1 a with a|a
  .exact h.a4 x a
  .rw[kX] at a;subst a;refine⟨⟨g,by show fD s<=20;omega⟩,by show (t.map _).length<=6;rw[kZ];exact d.2.2.2,λy i=>?_⟩
   obtain⟨f,c,rfl⟩:=pJ.1 i;have h1:=(d.1 f c).2;simp only[dX,bL,ba] at h1;have h2:=n5 f.2;show ((pieces f.2).map _).length<=40;rw[kZ];omega
 .rcases gA.1 a with a|a
  .exact h.a6 x a
  grind
section
open Go.Proofs
variable {X:Cx ah}
def E5(s:aZ)(a:dF s):Ev X 38 [eH s] [] (eH s) []:=by
 refine(fw s a.p a.p2 a.sn a.s2 a.h).forget rfl ?_ rfl;simp[ag.cat,ag,aP.same]
abbrev A5:dh:=jX Oe (λs=>eH s) λs=>[dF s]
def Gv:dG X 38 A5:=.oi λs h=>E5 s h
def xo(w:cM)(b:dF w.1)(g:w.2.1.length<=4000000)(f:w.2.2.length<=4000000):Ev X 61 [IY w] [] (.e (.agg [qP cP w.1.1,qP cm w.1.2.1,qP cH w.1.2.2,qP cI w.2.1,.vec 0 1 w.2.2.length (cI.fn w.2.2)])) [.vec 3 1 w.2.2.length (cI.fn w.2.2)]:=by
 refine Ev.iu tok Tryz.func61 rfl rfl rfl λd=>?_
 have a:bC X [(38,A5)]:=.cons Gv .nil;refine aD a [(2000009,ab)] 200 rfl ?_ ?_
 .simp only[ag,cP.list_fn,cP.aH,cm.list_fn,cm.aH,cH.list_fn,cH.aH,b,aF,aC,show i3.bytes=8 from rfl,gg];and_intros <;> omega
 refine AK.norm [M4 w,.cells 30 [qP cP w.1.1,qP cm w.1.2.1,qP cH w.1.2.2,qP cI w.2.1,.vec 2 1 w.2.2.length (cI.fn w.2.2)],.vec 3 1 w.2.2.length (cI.fn w.2.2)] rfl ?_ ?_
 .simp[ag,ag.cat,aP.same,cP.list_fn,cm.list_fn,cH.list_fn,gn]
 refine AK.dA () [2] rfl rfl rfl rfl rfl rfl rfl rfl ?_ rfl rfl rfl rfl (λj c=>absurd c (by simp))
 simp[ag,ag.cat,aP.same]
def Iu(w:cM)(a:dF w.1)(b:w.2.1.length<=4000000)(c:w.2.2.length<=4000000):Ev X 61 [IY w] [] (IY w) [] :=
 (xo w a b c).forget rfl (by simp[ag.cat,ag,aP.same]) rfl
abbrev vj:dh:=jX (X4 Yi) (λw=>IY w) λw=>[dF w.1,w.2.1.length<=4000000,w.2.2.length<=4000000]
def A6:dG X 61 vj:=.oi λw h=>Iu w h.1 h.2.1 h.2.2
abbrev Y5(p:bw)(a:List cA):List aV:=[OM p,.cells 85 [.c (.int .i64 0),dk],.cells 85 [.c (.int .i64 p.1),.vec 3 2 a.length (dE.fn a)],.vec 88 2 a.length (dE.fn a)]
def xp{α:Type}{l:List α}{q:α->Bool}{i:Nat}(h:i<l.length)(d:α):(l.take (i+1)).filter q=if q (l.getD i d)=ab then (l.take i).filter q++[l.getD i d] else (l.take i).filter q:=by
 rw[bq h d,List.filter_append,List.filter_cons];split <;> simp
def filter_le{α:Type}(l:List α)(q:α->Bool){i:Nat}(h:i<=l.length):((l.take i).filter q).length<=i:=eK (j3 _ _) (by simp;omega)
def MD(p:bw)(ns:List Int)(g:p.2.length<=4000000):Ev X 97 [xM p,cI.sl ns] [] (xM (jc p ns)) []:=by
 refine Ev.iu tok Tryz.func97 rfl rfl rfl λm=>?_
 have b:bC X [(47,Cz)]:=.cons Gk .nil;refine aD b [(1000002,ab)] 200 rfl av ?_;refine AK.gj 2 1 88 2 (dE.fn []) rfl rfl ?_;refine aD b [] 100 rfl av ?_;refine AK.bO 4 (λi=>i<=p.2.length) (λi:Nat=>[(1,cI.sl ns),(2,.e (.one (.ptr 0 0))),(4,.e (.one (.ptr 1 0))),(5,.e (.one (.ptr 2 0))),(6,dI i)])
  (λi=>Y5 p ((p.2.take i).filter λx=>ns.contains x.1)) (λi=>p.2.length-i) 0 rfl (by simp[ag.cat,ag,aP.same]) rfl (by simp[ag.cat,ag,aP.same,aP.nil]) rfl (by omega) ?_
 intro i hi;have l:=filter_le p.2 (λx=>ns.contains x.1) hi
 by_cases h:i<p.2.length
 .have f:p.2.getD i dE.bD=fV p i:=rfl;have c:(p.2.take (i+1)).filter (λx=>ns.contains x.1)=if ns.contains (fV p i).1=ab then (p.2.take i).filter (λx=>ns.contains x.1)++[fV p i] else (p.2.take i).filter (λx=>ns.contains x.1):=xp h (0,[])
  generalize (p.2.take i).filter (λx=>ns.contains x.1)=a at *
  generalize fV p i=x at *;cases d:ns.contains x.1 with
  |true =>
   rw[bc d] at c;have g:=dE.cn a x;refine aD b [(15,ab),(25,ab)] 200 rfl ?_ (AK.aQ (i+1) rfl (by simp[ag.cat,ag,aP.same]) ?_ h (by omega))
   .simp[-ai,-List.contains_eq_mem,ag,f,h,d,cI.list_fn,cI.aH,bu,show i88.bytes=24 from rfl];omega
   .rw[c];simp only[ag.cat,ag,bz,f,bP,er,aF,aC]
    and_intros <;> first|exact aP.same|exact g|rfl|omega
  |false =>
   rw[aY (by rw[d];simp)] at c
   refine aD b [(15,ab),(25,ae)] 200 rfl ?_ (AK.aQ (i+1) rfl (by simp[ag.cat,ag,aP.same]) ?_ h (by omega))
   .simp[-ai,-List.contains_eq_mem,ag,f,h,d,cI.list_fn,cI.aH,bu];omega
   .rw[c];simp[ag.cat,ag,aP.same]
 obtain rfl:i=p.2.length:=by omega
 rw[b6];refine aD b [(15,ae)] 100 rfl (by simp[ag]) (AK.leaveD rfl rfl ?_)
 refine aD b [] 100 rfl av ?_;refine AK.dA () [] rfl rfl rfl rfl rfl rfl rfl rfl ?_ rfl rfl rfl rfl (λj k=>absurd k (by simp))
 simp[ag,ag.cat,aP.same,jc]
abbrev ME:dh:=p0 (Hf dE) (aL cI) (λp ns=>xM (jc p ns)) λp _=>[p.2.length<=4000000]
def SI:dG X 97 ME:=.tb λp ns h=>MD p ns h
abbrev Td(w:cM)(b:Bool):D:=.eJ [.agg (Ve w),.one (.c (.bool b))]
abbrev SJ:List A:=[dk,dk,dk,dk,dk]
def stepT(no:Int)(ms:List Int)(ps:List bw)(i:Nat):List bw:=jq no ms (ps.take i)
def Iv{no:Int}{ms:List Int}{ps:List bw}{i:Nat}(h:i<ps.length):stepT no ms ps (i+1)=if (ll no ms (ps.getD i (0,[]))).2.length=0 then stepT no ms ps i else stepT no ms ps i++[ll no ms (ps.getD i (0,[]))]:=by
 unfold stepT jq;rw[bq h (0,[]),rh,List.filter_append,List.map_singleton]
 grind
def Iw(no:Int)(ms:List Int)(ps:List bw){i:Nat}(h:i<=ps.length):(stepT no ms ps i).length<=i:=by
 unfold stepT jq
 grind
def E6(w:cM)(b:dF w.1)(e:w.2.1.length<=4000000)(c:w.2.2=[]):Ev X 57 [IY w] [] (Td w ae) []:=by
 refine Ev.fY Tryz.func57 rfl rfl rfl λd=>?_
 have a:bC X [(61,vj)]:=.cons A6 .nil;refine aD a [(13,ab)] 200 rfl ?_ ?_
 .simp only[ag,cP.list_fn,cP.aH,cm.list_fn,cm.aH,cH.list_fn,cH.aH,cI.list_fn,cI.aH,b,c,aF,aC];simp;omega
 refine AK.freeze 2 1 rfl rfl rfl ?_;refine AK.iQ tok [] rfl ?_ rfl rfl rfl fN;simp[ag.cat,ag,aP.same,cP.list_fn,cm.list_fn,cH.list_fn,cI.list_fn]
abbrev Ze(st:aZ)(ms:List Int)(l:List Int)(a:List bw):List aV:=[M4 (st,ms,l),.cells 30 SJ,M4 (st,ms,l),.vec 85 2 a.length (cP.fn a)]
def _root_.Go.AM.hU.Pj{α:Type}(c:hU α)(x:α)(l:List α){n:Nat}(h:n=l.length):aP n (jK 1 (c.fn (x::l))) (c.fn l):=by
 intro i hi;simp only[jK,hU.fn,sH,ai,Nat.add_comm 1 i,mJ]
def Fa(st:aZ)(ms lf:List Int) (no:Int)(r:List Int)(c:lf=no::r)(s:dF st)(y:ms.length<=4000000)(w:lf.length<=4000000):Ev X 57 [IY (st,ms,lf)] [] (Td ((jq no ms st.1,st.2),ms,r) ab) []:=by
 refine Ev.fY Tryz.func57 rfl rfl rfl λA=>?_
 have f:bC X [(61,vj),(97,ME)]:=.cons A6 (.cons SI .nil);have u:0<lf.length:=by rw[c];simp
 refine aD f [(13,ae),(1000005,ab)] 200 rfl ?_ ?_
 .simp only[ag,cP.list_fn,cP.aH,cm.list_fn,cm.aH,cH.list_fn,cH.aH,cI.list_fn,cI.aH,s,y,w,aF,aC,dm,cT];omega
 refine AK.ir 5 85 2 rfl rfl ?_;refine aD f [] 200 rfl av ?_;have x:=s.p;refine AK.bO 4 (λi=>i<=st.1.length) (λi:Nat=>[(1,.e (.one (.ptr 0 0))),(2,.e (.one (.ptr 1 0))),(4,.e (.one (.ptr 2 0))),(5,.e (.one (.vec 3 2 (stepT no ms st.1 i).length (cP.fn (stepT no ms st.1 i))))),(6,dI i)])
  (λi=>Ze st ms lf (stepT no ms st.1 i)) (λi=>st.1.length-i) 0 rfl ?_ rfl ?_ rfl (by omega) ?_
 .simp[ag.cat,ag,aP.same,aP.nil,stepT,jq]
 .simp[ag.cat,ag,aP.same,aP.nil,stepT,jq,cP.list_fn,cm.list_fn,cH.list_fn,cI.list_fn]
 intro i hi
 by_cases h:i<st.1.length
 .have g:st.1.getD i cP.bD=st.1.getD i (0,[]):=rfl;have m:=s.p2 _ (gN h (0,[]));have b:=Iv (no:=no) (ms:=ms) h;have z:=Iw no ms st.1 hi;have o:lf.getD (Int.toNat 0) cI.bD=no:=by rw[c];rfl
  generalize stepT no ms st.1 i=a at *;generalize st.1.getD i (0,[])=p at *
  by_cases k:p.1=no
  .have j:ll no ms p=jc p ms:=by unfold ll;rw[bc k]
   rw[j] at b;have l:=cP.cn a (jc p ms);have v:(jc p ms).2.length<=p.2.length:=j3 _ _;have d:(p.1,p.2)=p:=rfl
   by_cases n:(jc p ms).2.length=0
   .rw[bc n] at b;refine aD f [(21,ab),(36,ab),(44,ae)] 200 rfl ?_ (AK.aQ (i+1) rfl ?_ ?_ h (by omega))
    .simp only[ag,bz,g,o,d,m,dE.list_fn,dE.aH,cI.list_fn,cI.aH,bu,ba,bJ,gi,aF,aC]
     and_intros <;> first|exact k|omega
    .rw[b];simp[ag.cat,ag,aP.same]
    .rw[b];simp[ag.cat,ag,aP.same]
   .rw[aY n] at b;refine aD f [(21,ab),(36,ab),(44,ab)] 200 rfl ?_ (AK.aQ (i+1) rfl ?_ ?_ h (by omega))
    .simp only[ag,bz,g,o,d,m,dE.list_fn,dE.aH,cI.list_fn,cI.aH,bu,show i85.bytes=32 from rfl,ba,bJ,gi,aF,aC]
     and_intros <;> first|exact k|omega
    .rw[b];simp only[ag.cat,ag,bz,g,d,dE.list_fn,cI.list_fn,bP,er,aF,aC]
     and_intros <;> first|exact aP.same|exact l|rfl|omega
    .rw[b];simp only[ag.cat,ag,bz,g,d,dE.list_fn,cI.list_fn,bP,er,aF,aC]
     and_intros <;> first|exact aP.same|exact l|rfl|omega
  .have j:ll no ms p=p:=by unfold ll;rw[aY k]
   rw[j] at b;have l:=cP.cn a p
   by_cases n:p.2.length=0
   .rw[bc n] at b;refine aD f [(21,ab),(36,ae),(44,ae)] 200 rfl ?_ (AK.aQ (i+1) rfl ?_ ?_ h (by omega))
    .simp only[ag,bz,g,o,bu,ba,bJ,dm,cT,aF,aC]
     and_intros <;> first|exact k|omega
    .rw[b];simp[ag.cat,ag,aP.same]
    .rw[b];simp[ag.cat,ag,aP.same]
   .rw[aY n] at b;refine aD f [(21,ab),(36,ae),(44,ab)] 200 rfl ?_ (AK.aQ (i+1) rfl ?_ ?_ h (by omega))
    .simp only[ag,bz,g,o,bu,show i85.bytes=32 from rfl,ba,bJ,dm,cT,aF,aC]
     and_intros <;> first|exact k|omega
    .rw[b];simp only[ag.cat,ag,bz,g,bP,er,aF,aC]
     and_intros <;> first|exact aP.same|exact l|rfl|omega
    .rw[b];simp only[ag.cat,ag,bz,g,bP,er,aF,aC]
     and_intros <;> first|exact aP.same|exact l|rfl|omega
 obtain rfl:i=st.1.length:=by omega
 have q:stepT no ms st.1 st.1.length=jq no ms st.1:=by unfold stepT;rw[b6]
 rw[q];refine aD f [(21,ae)] 200 rfl (by simp[ag]) (AK.leaveD rfl rfl ?_)
 refine aD f [] 200 rfl ?_ ?_
 .simp only[ag,cr,iP,aF,aC];omega
 refine AK.freeze 2 1 rfl rfl rfl ?_;refine AK.iQ tok [] rfl ?_ rfl rfl rfl fN;have t:=cI.Pj no r rfl;rw[<-c] at t;simp only[ag.cat,ag,cr,aF,aC]
 and_intros <;> first|exact aP.same|exact t|(rw[c];simp;done)|grind|rfl
def Vx(w:cM):Bool:=!w.2.2.isEmpty
def Iy(w:cM)(a:dF w.1)(b:w.2.1.length<=4000000)(c:w.2.2.length<=4000000):Ev X 57 [IY w] [] (Td (AY w) (Vx w)) []:=by
 obtain⟨st,ms,d⟩:=w;cases d with
 |nil=>exact E6 (st,ms,[]) a b rfl
 |cons no r=>exact Fa st ms (no::r) no r rfl a b c
def yU(m:Int×Int):Bool:=decide (0<=m.1/\m.1<=9)&&decide (0<=m.2)
abbrev xU(w:dy)(i:Nat):Int×Int:=w.2.2.2.1.getD i (0,0)
abbrev xV(w:dy)(i:Nat):Int:=w.2.2.2.2.getD i 0
def ue(w:dy)(i:Nat):Bool:=yU (xU w i)&&decide (0<=xV w i/\xV w i<=2)
def ey(w:dy):Bool:=decide (w.2.2.2.1.length=2)&&decide (w.2.2.2.2.length=2)&&(bh 2).all (ue w)&&fA w.1 w.2.1
def LO(m:Int×Int):Ev X 25 [S6.enc m] [] (dB (yU m)) []:=by
 refine Ev.bQ Tryz.func25 rfl λb=>?_
 have a:bC X [(15,n3)]:=.cons oF .nil
 by_cases c:0<=m.1/\m.1<=9
 .exact aD a [(6,ab)] 100 rfl (by simp[ag,c]) (AK.bm rfl (by simp[ag,yU,c]))
 .exact aD a [(6,ae)] 100 rfl (by simp[ag];omega) (AK.bm rfl (by simp only[ag,yU,eu c];simp))
def uf(w:dy)(n:OR w.2.1.1):Ev X 10 [CJ w] [] (dB (ey w)) []:=by
 refine Ev.bQ Tryz.func10 rfl λo=>?_
 have b:bC X [(25,jX S6 (λm=>dB (yU m)) λ_=>[]),(15,n3),(26,tu)]:=.cons (.oi λm _=>LO m) (.cons oF (.cons yT .nil))
 unfold ey
 by_cases l:w.2.2.2.1.length=2
 rotate_left
 .exact aD b [(8,ab),(13,ab)] 100 rfl (by simp[ag];omega) (AK.bm rfl (by simp[ag,eu l]))
 by_cases g:w.2.2.2.2.length=2
 rotate_left
 .exact aD b [(8,ae),(13,ab)] 100 rfl (by simp[ag];omega) (AK.bm rfl (by simp[ag,eu g]))
 refine aD b [(8,ae),(13,ae)] 100 rfl (by simp[ag];omega) ?_
 rw[cj l,cj g,dJ,dJ];refine AK.bO 1 (λi=>i<=2/\∀ j,j<i->ue w j=ab) (λi:Nat=>[(1,.e (.one (.ptr 0 0))),(3,dI i)]) (λ_=>[.cells 35 (M3 w)]) (λi=>2-i) 0 rfl (by simp[ag.cat,ag]) rfl (by simp[ag.cat,ag,aP.same]) rfl ⟨by omega,by omega⟩ ?_
 rintro i ⟨hi,a⟩
 by_cases h:i<2
 .have f:w.2.2.2.1.getD i cH.bD=xU w i:=rfl;have d:w.2.2.2.2.getD i cI.bD=xV w i:=rfl;cases c:yU (xU w i) with
  |false =>
   refine aD b [(15,ab),(25,ab),(33,ab)] 100 rfl ?_ (AK.ei (b5.zero rfl ?_))
   .simp[-ai,ag,f,c];omega
   .rw[dY h (by rw[ue,c];rfl)];simp[ag]
  |true =>
   by_cases k:0<=xV w i/\xV w i<=2
   .refine aD b [(15,ab),(25,ae),(33,ae)] 100 rfl ?_ (AK.aQ (i+1) rfl (by simp[ag.cat,ag]) (by simp[ag.cat,ag,aP.same]) ⟨h,fg a (by rw[ue,c,cj k];rfl)⟩ (by omega))
    simp[-ai,ag,f,d,c,bu];omega
   .refine aD b [(15,ab),(25,ae),(33,ab)] 100 rfl ?_ (AK.ei (b5.zero rfl ?_))
    .simp[-ai,ag,f,d,c];omega
    .rw[dY h (by rw[ue,eu k,Bool.and_false])];simp[ag]
 obtain rfl:i=2:=by omega
 rw[cd.2 a,dJ];refine aD b [(15,ae)] 100 rfl (by simp[ag]) (AK.leaveD rfl rfl ?_)
 refine aD b [] 100 rfl ?_ (AK.bm rfl ?_)
 .simp[ag.cat,ag,cP.list_fn,cP.aH,cm.list_fn,cm.aH,cH.list_fn,cH.aH,cI.list_fn,cI.aH,n]
 .simp[ag,cP.list_fn,cm.list_fn,cH.list_fn,cI.list_fn]
end
end Go.AM.R1
namespace Go.AM
section
open Go.Conc (G)
section
variable {P:aq}{X:Cx P}{N:Nat}{Qf:Post}{K:List It}{φ:Fr}{σ:List aV}{all rest:List aw}{o:aw}
def BJ(P:aq)(N:Nat)(o:aw)(φ:Fr)(σ:List aV){ι:Type}(x:ι->D)(σ':ι->List aV):Prop :=
 ∀ s a,cv N σ s φ a->aJ σ s->∃ i b s' v,(ay a.eval o).run P s.w=.ok b s'.w/\(b=.value v∨(b=.skip/\v=aj))/\c8 (σ' i) s' v (x i)/\aJ (σ' i) s'/\Step σ s (σ' i) s'/\eX s ((ay a.eval o).events P s.w #[])
def rU.Q2{ι:Type}{x:ι->D}{σ':ι->List aV}(n:o.guard=af)(h:BJ P N o φ σ x σ'):rU X N all o φ σ x σ':=by
 intro s a f hh b k cs S i rest hb hi hK;refine zO hb hi (dq n) λm c=>?_
 have d:=hh.rely c;obtain⟨j,q,s',v,h1,h2,p,e,g,l⟩:=h m a (f.rely c hh) d;exact⟨q,s',v,h1,h2,⟨⟨σ,σ' j,d,e,g⟩,l⟩,hK j v s' p e (c.stepW.trans (g.ox d))⟩
def rU.u6{ι:Type}{v:an}{xs:Array an}{y:Array ar}{f:aW}{cap:List C}{d:List D}{l:List aV}{σ1:ι->List aV}{res:ι->D}(n:cK X f d l res σ1)(ks:List Nat)
  (E:o.guard=af) (G:o.op=.call { callee:=.value v,args:=xs,argTypes:=y }) (u:eP (bZ φ v)=aa (f,cap)) (k:oe (xs.toList.map (bZ φ)++fW cap)=iX ks d) (z:ow ks.length d=ab)
  (F:kI ks σ=aa l) (I:cU l=ab) (x:∀ j,cU (σ1 j)=ab) (hn:eg ks=ab) (A:∀ j,bo ks.length (σ1 j).length=ab) :
  rU X N all o φ σ (λj=>jB (ks++mP σ.length ((σ1 j).length-ks.length)) (res j)) (λj=>ef ks (σ1 j) σ):=by
 intro s a r hh b kk cs S i rest hb hi hK;have t:=dN r v;unfold eP at u;split at u
 case h_2=>cases u
 case h_1 f' I0 he =>
  cases u;rw[he] at t;have g:=fx t;generalize H:a.eval v=fv at g;cases g with
  |fn fs ma hl Bb f1 f2 h1 h2 r1 r2 =>
   have B:fs=[]:=hX hl;subst B;have m:cw σ s ma (fW cap):=lN (λj c hj=>⟨f2 j,h2 j (by grind),r2 j c hj⟩) Bb
   have p:cw σ s (xs.toList.map a.eval++ma) (iX ks d):=by
    rw[<-k];exact rF ((nH (dN r) xs.toList).append m)
   obtain⟨fn,q,h,e⟩:=n.1;exact sQ hb hi (dq E) hh (λw=>(gL G q h e H w).1) (λw=>(gL G q h e H w).2) n p z F I x hn (λj=>c7 (A j)) hK
def BJ.fresh{x y:an}{E:ar}{F:TI}(h:mg P o x y E F){k0 k m:Nat}{tx:Bool}{es es':Nat->List C}(hs:F.size=k)(R:bZ φ x=.e (.one (.c (.sl ab k0 0 es))))(hy:bZ φ y=.e (.one (.c (.sl tx k m es'))))(O:0<m)
  (hb:m*F.bytes<=140737488355328) (Zx:∀ i,i<m->∀ c∈es' i,vq c=ab) :
  BJ P N o φ σ (ι:={ q:qT×List ak // dZ k m es' q.2 }) (λq=>.e (.one (.v (lB q.1.1 m)))) (λq=>σ++[.dz (hJ E k q.1.1 m q.1.2)]):=by
 intro s ρ Y hh;obtain⟨t,t2,i,i2,ho,hi,hd,H,L⟩:=h.op;have h1:=dN Y x;rw[R] at h1;have n:=Rd.uU (k:=k0) (k':=F.size) (.inr rfl) (fx h1);have h2:=dN Y y;rw[hy] at h2;have h2:=fx h2;obtain⟨a,cap,vs,hv,Z,I2,ht,hF,NK⟩:=n.flat;have S:cap=0:=ht rfl;subst S;rw[hv] at n;have J:Rd s.M (ρ.eval y) (.sl tx F.size m es'):=by grind
 obtain⟨f,Q,g,d,D,V,z,r⟩:=il (P:=P) (ty:=o.type) hi hd H L h.elem hh n J (by omega) (by grind) h.bytes
 have M9:=iV (P:=P) (ty:=o.type) hi hd H L h.elem hh n J (by omega) (by grind) h.bytes
 have e0:cO 0 es es'=es':=by funext i;simp[cO]
 rw[hs,bt,e0] at d;rw[hs] at z;rw[bt] at D r;have I:dZ k m es' f:=⟨d.len,d.width,λi hi j c hj=>by
  obtain⟨u,T,W⟩:=d.rd i hi j c hj
  grind [rB]⟩
 have A:∀ x∈f,cX x=ab:=λx R=>by
  obtain⟨p,hp,rfl⟩:=dT R;have hk:0<k:=by grind
  have Po:=d.len;have hi:p / k<m:=pA (by grind)
  have U:p / k*k+p % k=p:=pD p k;have hj:p % k<(es' (p / k)).length:=by rw[d.width _ hi];exact jF _ hk
  obtain⟨u,T,W⟩:=I.at' _ hi _ _ (br hj);rw[U,br hp] at T;cases T;exact(W s.M).cell
 let w':az:=s.w.drew.alloc (.cells (f++Q).toArray E)
 have hB:eO (σ++[.dz (hJ E k (.row s.w.heap.size g) m f)]) { s with w:=w',β:=s.β++[⟨.nilFunc,[s.w.heap.size]⟩] } (.dz (hJ E k (.row s.w.heap.size g) m f)) ⟨.nilFunc,[s.w.heap.size]⟩:=by
  refine⟨λB=>if B=s.w.heap.size then aa (.cells (f++Q).toArray E (0,0)) else af,⟨rfl,A,d.len,D,V,Q,z,rfl⟩,λB o l=>?_,λB=>?_,λB l o=>?_⟩
  .by_cases e:B=s.w.heap.size
   .subst e;simp only[cq] at l;cases l;exact dt s.w.drew _
   grind
  .by_cases e:B=s.w.heap.size <;> simp[e]
  .simp at l;subst l;cases O:s.M s.w.heap.size o with
   |none=>rfl
   |some v=>have:=hh.block O;omega
 have Dv:w'.heap.size=s.w.heap.size+1:=by show (s.w.drew.heap.push _).size=_;simp
 have G:aJ σ { s with w:=w' }/\Step σ s σ { s with w:=w' } :=
  hh.grow (by omega) (λb hb=>cJ s.w.drew _ hb) (λb hb o=>rfl) (λb hb o v O=>by
   have:=hh.block O;omega) rfl rfl rfl
 obtain⟨g1,g2⟩:=G.1.gR G.2 rfl hh hB (λb hb=>by
   grind)
 refine⟨⟨(.row s.w.heap.size g,f),I⟩,.value (.slice (aa ⟨s.w.heap.size,0,af⟩) m g),_,_,?_,.inl rfl,Rd.val rfl,g1,g2,?_⟩
 .rw[cY ho,hv];simp[r];rfl
 grind [cY,eB]
def AK.fresh{x y:an}{E:ar}{b:TI}(h:mg P o x y E b){d k m:Nat}{tx:Bool}{es es':Nat->List C}(f:b.size=k)(p:bZ φ x=.e (.one (.c (.sl ab d 0 es))))(l:bZ φ y=.e (.one (.c (.sl tx k m es'))))(j:0<m)
  (hb:m*b.bytes<=140737488355328) (a:∀ i,i<m->∀ c∈es' i,vq c=ab) (g:o.guard=af) (n:gw N o.dst=ab)
  (kk:∀ q:{ q:qT×List ak // dZ k m es' q.2 },AK X N Qf (.ops all rest::K) .normal (lA o.dst (.e (.one (.v (lB q.1.1 m)))) φ) (σ++[.dz (hJ E k q.1.1 m q.1.2)])):AK X N Qf (.ops all (o::rest)::K) .normal φ σ :=
 AK.hand _ _ g n (BJ.fresh h f p l j hb a) kk
def AK.spare(E:ar)(k:Nat){c:Code}(kk:AK X N Qf (.code c::K) .normal φ (σ++[.dz (hJ E k (.nil af) 0 [])])):AK X N Qf (.code c::K) .normal φ σ:=by
 refine AK.ghost (λs a b hh=>?_) kk
 obtain⟨d,g2⟩:=hh.gR (B:=.dz (hJ E k (.nil af) 0 [])) (L:=⟨.nilFunc,[]⟩) (.refl _ _) rfl hh ⟨λ_=>af,⟨rfl,by simp,by simp,rfl,rfl⟩,by simp,by simp,by simp⟩ (by simp)
 exact⟨{ s with β:=s.β++[⟨.nilFunc,[]⟩] },rfl,⟨b.size,b.defers.imp λ_ h1=>h1.mono g2.ext,λu=>(b.slot u).mono g2.ext hh.len⟩,d,g2⟩
end
def PM(u:ak)(k m:Nat)(es:Nat->List C)(c a:C):Prop:=a=c∨(c=.val u/\a=.sl ae k m es)
def aJ.zP{σ1 σ2:List aV}{s:St}{E:ar}{k n:Nat}{bf:qT}{xs:List ak}{es:Nat->List C}(hh:aJ (σ1++[.dz (hJ E k bf n xs)]) s)(B:dZ k n es xs){m:Nat}{E0:ar}{p g:Nat}{e a:Nat->List C}(I:σ1[m]?=aa (.buf E0 p g e))
  (WR:σ2=σ1.set m (.buf E0 p g a)) (G:rI σ2.length σ2=ab) (hw:∀ i,i<g->(a i).length=(e i).length) (hc:∀ i,i<g->∀ (j:Nat) (D:C),(a i)[j]?=aa D->∃ c,(e i)[j]?=aa c/\PM (lB bf n) k n es c D) :
  ∃ s2:St,aJ σ2 s2/\eQ s s2/\(∀ v d,c8 (σ1++[.dz (hJ E k bf n xs)]) s v d->u5 σ2.length d=ab->c8 σ2 s2 v d)/\∀ {σ0:List aV} {s0:St},cB σ0 s0 (σ1++[.dz (hJ E k bf n xs)]) s->σ0.length<=σ2.length->cB σ0 s0 σ2 s2:=by
 have R:m<σ1.length:=(cp.1 I).1;have Z:(σ1++[aV.dz (hJ E k bf n xs)])[σ1.length]?=aa (.dz (hJ E k bf n xs)):=by simp
 obtain⟨L,M',hL,m1,m2,S,m0,m4⟩:=hJ.Fs Z es (λi hi=>⟨B.wid i hi,λM j c x hj hx=>by
  obtain⟨y,y1,y2⟩:=B.at' i hi j c hj
  grind⟩) s hh
 obtain⟨z,q2⟩:=hh.iO (M':=M') (w':=s.w) (B':=.dead) (L':=⟨L.v,[]⟩) Z hL rfl (bg _) (λ_ _ _=>rfl) (λb _ hb o=>m2 b hb o) m1 S (by simp) rfl rfl rfl av
 have t:(σ1++[aV.dz (hJ E k bf n xs)]).set σ1.length .dead=σ1++[.dead]:=by simp
 rw[t] at z q2;have A:(σ1++[aV.dead])[m]?=aa (.buf E0 p g e):=by grind
 have O:=z.len;have f:=br (l:=s.β.set σ1.length ⟨L.v,[]⟩) (i:=m) (by
  grind)
 generalize (s.β.set σ1.length ⟨L.v,[]⟩)[m]'_=L0 at f;have Q:=z.box m _ L0 A f;have q:ig (.buf E0 p g e) L0 (.buf E0 p g a) L0:=⟨λ_=>rfl,bg _⟩
 have J:(s.β.set σ1.length ⟨L.v,[]⟩).set m L0=s.β.set σ1.length ⟨L.v,[]⟩:=by
  apply iL
  grind
 obtain⟨Y,r2⟩:=z.iO (M':=M') (w':=s.w) (B':=.buf E0 p g a) (L':=L0) A f q (bg _) (λ_ _ _=>rfl) (λ_ _ _ _=>rfl) (λ_ _ _ h=>h) S
  (λb hb=>⟨.inl hb,z.lt L0 (bT f) b hb⟩) rfl rfl rfl (by
   rcases Q with⟨e1,e2⟩|⟨b,c0,vs,zs,e1,e2,e3,e4,e5,V,e6⟩
   .exact .inl ⟨e1,e2⟩
   .refine .inr ⟨b,c0,vs,zs,e1,e2,e3,e4,e5,⟨V.len,λi hi=>by rw[hw i hi];exact V.width i hi,λi hi j D hj=>?_⟩,e6⟩
    obtain⟨c,W,H⟩:=hc i hi j D hj;obtain⟨u,u1,u2⟩:=V.rd i hi j c W;refine⟨u,u1,?_⟩;rcases H with rfl|⟨rfl,rfl⟩
    .exact u2
    grind [Rd.fX])
 have T:(σ1++[aV.dead]).set m (.buf E0 p g a)=σ2++[.dead]:=by grind
 rw[T] at Y r2;have st:=q2.trans r2;refine⟨_,Y.drop (rest:=[.dead]) G,⟨rfl,m1,λb hb o=>m2 b (hb L (bT hL)) o,S,λb hb=>?_⟩,λv d r hd=>(r.mono st.ext hh.len).drop (rest:=[.dead]) hd,λ{σ0 s0} F q=>(F.trans (st.ox hh)).drop (rest:=[.dead]) q⟩
 rcases hb with hb|⟨L',U,hb⟩
 .exact .inl hb
 .have h1:=iJ U
  grind
def cK.zP{P:aq}{ι:Type}{X:Cx P}{f:aW}{args:List D}{σ:List aV}{res:ι->D}{σ1 σ2:ι->List aV}{E k n:Nat}{bf:ι->qT}{xs:ι->List ak}{es:Nat->List C}(h:cK X f args σ res (λi=>σ1 i++[.dz (hJ E k (bf i) n (xs i))]))
  (m:∀ i,dZ k n es (xs i)) (u:Nat) {E0:ar} {t l:Nat} {a:ι->Nat->List C} {b:Nat->List C} (p:∀ i,(σ1 i)[u]?=aa (.buf E0 t l (a i)))
  (g:∀ i,σ2 i=(σ1 i).set u (.buf E0 t l b)) (r:∀ i,rI (σ2 i).length (σ2 i)=ab) (d:∀ i,u5 (σ2 i).length (res i)=ab) (e:∀ i,σ.length<=(σ2 i).length)
  (y:∀ i q,q<l->(b q).length=(a i q).length) (x:∀ i q,q<l->∀ (j:Nat) (w:C),(b q)[j]?=aa w->∃ c,(a i q)[j]?=aa c/\PM (lB (bf i) n) k n es c w):cK X f args σ res σ2:=by
 refine⟨h.1,λs vs hr hh S cs hS=>h.2 s vs hr hh S cs λi fr v s' hl mL k9 st=>?_⟩
 obtain⟨s2,c1,c2,c3,c4⟩:=k9.zP (m i) (p i) (g i) (r i) (y i) (x i);exact .ghost c2 (hS i fr v s2 (hl.mono c2.mem) (c3 v _ mL (d i)) c1 (c4 st (e i)))
end
end Go.AM
namespace Go.AM.R1
section
open Go.Proofs
variable {X:Cx ah}
def P8{o:aw}{x y:an}(h:o.op=.call { callee:=.builtin .append,args:=#[x,y],argTypes:=#[83,83] }):mg ah o x y 88 i88 :=
 ⟨⟨83,83,i83,i83,h,Ye,rfl,Ye,rfl⟩,g88,by decide,by decide⟩
def Gf(l:List cA)(n:Nat):∀ i,i<n->∀ c∈dE.fn l i,vq c=ab:=by
 intro i _ c a;have:dE.fn l i=[.int .i64 (l.getD i dE.bD).1,.str (l.getD i dE.bD).2]:=rfl;rw[this] at a;rcases e9.1 a with rfl|a
 .rfl
 .rcases e9.1 a with rfl|a
  .rfl
  .cases a
abbrev Own(l:List cA):Type:={ q:qT×List ak // dZ 2 l.length (dE.fn l) q.2 }
abbrev HK(l:List cA)(q:Own l):aV:=.dz (hJ 88 2 q.1.1 l.length q.1.2)
abbrev EG(l:List cA)(q:Own l):C:=.val (lB q.1.1 l.length)
def HL(l:List cA)(d:0<l.length)(h:l.length<=4000000):cK (ι:=Own l) X 165 [dE.sl l] [] (λq=>.e (.one (.c (EG l q)))) (λq=>[HK l q]):=by
 refine cK.om Tryz.func165 rfl rfl rfl λg=>?_
 refine bk rfl av ?_;refine AK.BS tok rfl rfl rfl rfl rfl rfl λb a=>?_
 cases b with
 |true=>have:=a rfl;omega
 |false =>
  refine aX [] 7 rfl av ?_;refine AK.fresh (P8 rfl) rfl rfl rfl d (by show _*24<=_;omega) (Gf l _) rfl rfl λq=>?_
  refine bk rfl av ?_;refine AK.lg q (AK.dD [0] rfl ?_ rfl rfl rfl (λj f=>absurd f (by simp)))
  simp[ag]
def xR(p:bw)(b:0<p.2.length)(d:p.2.length<=4000000):cK (ι:=Own p.2) X 111 [xM p] [] (λq=>.e (.agg [.c (.int .i64 p.1),.c (EG p.2 q)])) (λq=>[HK p.2 q]):=by
 refine cK.fY tok Tryz.func111 rfl rfl rfl λf=>?_
 refine bk rfl av ?_;refine AK.cP (HL p.2 b d) [] rfl (λ_=>rfl) ?_
 intro q;refine bk rfl av ?_;refine AK.dA q [2] rfl rfl rfl rfl rfl rfl rfl rfl ?_ rfl rfl rfl rfl (λj a=>absurd a (by simp))
 simp[ag,ag.cat,aP.same]
end
end Go.AM.R1
namespace Go.AM
section
open Go.Conc (G)
def NS(p:Nat->Bool):List Nat->Bool
 |[]=>ae
 |e::r=>match p e with|true=>ab|false=>NS p r
def FT{p:Nat->Bool}:∀ {l:List Nat},NS p l=ab->∃ e∈l,p e=ab
 |[],h=>by cases h
 |e::r,h=>by
  simp only[NS] at h;split at h
  .rename_i a;exact⟨e,by simp,a⟩
  .obtain⟨d,b,c⟩:=FT h;grind
def wj(all:List aw)(k:Nat):Nat->List Nat->Bool
 |0,l=>fJ k l
 |f+1,l=>match fJ k l with|true=>ab|false=>NS (λe=>wj all k f (bR (all.getD e fT).after.toList)) l
def s8{all:List aw}{k:Nat}{L:Nat->Prop}(c:∀ i,i<all.length->L i->∀ e∈bR (all.getD i fT).after.toList,L e):∀ {f:Nat}{l:List Nat},wj all k f l=ab->(∀ e∈l,L e)->L k
 |0,l,h,a=>a k (Bx h)
 |f+1,l,h,a=>by
  simp only[wj] at h;split at h
  .rename_i m;exact a k (Bx m)
  .obtain⟨e,j,b⟩:=FT h;rcases cG e all.length with g|g
   .exact s8 c b (c e g (a e j))
   .have:all.getD e fT=fT:=by grind
    rw[this] at b;exact s8 c b (λn d=>by simp[fT,bR] at d)
def wm(all:List aw)(f:Nat)(l:List Nat):Nat->Bool
 |0=>ab
 |n+1=>match wj all n f l with|true=>wm all f l n|false=>ae
def yp{all:List aw}{f:Nat}{l:List Nat}:∀ {n:Nat},wm all f l n=ab->∀ k,k<n->wj all k f l=ab
 |0,_,k,b=>by omega
 |n+1,h,k,b=>by
  simp only[wm] at h;split at h
  .rename_i a
   by_cases e:k=n
   .subst e;exact a
   .exact yp h k (by omega)
  .cases h
def z9(all:List aw)(f:Nat):Nat->Nat->Bool
 |_,0=>ab
 |i,r+1=>match wm all f (bR (all.getD i fT).after.toList) i with|true=>z9 all f (i+1) r|false=>ae
def yq{all:List aw}{f:Nat}:∀ {i r:Nat},z9 all f i r=ab->∀ q,i<=q->q<i+r->wm all f (bR (all.getD q fT).after.toList) q=ab
 |i,0,_,q,a,b=>by omega
 |i,r+1,h,q,a,b=>by
  simp only[z9] at h;split at h
  .rename_i c
   by_cases e:q=i
   .subst e;exact c
   .exact yq h q (by omega) (by omega)
  .cases h
section
variable {P:aq}{X:Cx P}{N:Nat}{φ:Fr}{σ:List aV}
def G8{ι:Type}(c:Nat)(pre:Nat->Bool)(x:Nat->D)(y:ι->Nat->D)(j:ι)(i:Nat):D:=match Nat.blt i c with|true=>qG pre x y j i|false=>.any
def AK.NT{ι:Type}(v:P.follows Departure.mixedOrders=ab)(m c f:Nat)(pre:Nat->Bool)(x:Nat->D)(y:ι->Nat->D)(σ':ι->List aV){ops:Array aw}{id:Nat}{K:List It}{Qf:Post}
  (b:mo ops.toList=ab) (d:rV ops.toList 0=ab) (e:nS N ops.toList=ab) (t:pre m=ae) (s:xK pre m ops.toList 0=ab)
  (u:Nat.blt c ops.toList.length=ab) (n:Nat.blt m c=ab) (l:∀ i,pre i=ab->i<c) (S4:z9 ops.toList f c (ops.toList.length-c)=ab)
  (one:qE X N ops.toList φ σ x pre ops.toList 0) (two:∀ j,qF X N ops.toList φ (σ' j) (G8 c pre x y j) m (ops.toList.take c) 0)
  (G7:rU X N ops.toList (ops.toList.getD m fT) (mU ops.toList φ x m) σ (λj=>G8 c pre x y j m) σ')
  (k:∀ j,AK X N Qf (.ops ops.toList (ops.toList.drop c)::K) .normal (MT ops.toList φ (G8 c pre x y j)) (σ' j)):AK X N Qf (.code (.region id ops ab)::K) .normal φ σ:=by
 have u:=c7 u;have n:=c7 n;have:=AW.reg (X:=X) (N:=N) (φ:=φ) (σ:=σ) v (all:=ops.toList) c (λa:Option ι=>a.elim x (G8 c pre x y)) (λa _=>a.elim σ σ') (λa D=>a.isSome=D m/\(a=af->∀ i,D i=ab->pre i=ab)) af ⟨rfl,λ_ _ h=>by cases h⟩ rfl b d e (by omega)
  (λi h1 h2 L w g k z=>s8 w (yp (yq S4 i h1 (by omega)) k z) g)
  (λa D p r i h1 h2=>by
   obtain⟨j,rfl⟩:=r5 p n r;have:Nat.blt i c=ae:=by
    cases hb:Nat.blt i c with
    |false=>rfl
    |true=>have:=c7 hb;omega
   simp only[Option.elim,G8,this])
  (z8 (S:=λj _=>σ' j) t s (λj i g=>by
    have:Nat.blt i c=ab:=qW (l i g);simp only[G8,this,qG,g])
   (λi o hi g=>by have:=one.get i o hi (by rwa [bt]);rwa [bt] at this)
   (λj D i o hi Bh u4 _ _=>by
    have q:(ops.toList.take c)[i]?=aa o:=by grind
    have:=(two j).get i o q (by rwa [bt]);rwa [bt] at this)
   (λo A=>by grind) (λ_ _ _=>rfl))
  (Q:=AK X N Qf K) (λa D p r=>by
   obtain⟨j,rfl⟩:=r5 p n r;exact k j) id
 rw[oH] at this;exact this
end
end
end Go.AM
namespace Go.AM.R1
section
open Go.Proofs
variable {X:Cx ah}
def Dm(ps:List bw)(i0:Nat)(u:ak)(j:Nat):C:=if j=i0 then .val u else .sl ae 2 (ps.getD j (0,[])).2.length (dE.fn (ps.getD j (0,[])).2)
def jb(ps:List bw)(i0:Nat)(u:ak)(j:Nat):List C:=[.int .i64 (ps.getD j (0,[])).1,Dm ps i0 u j]
def yP{ps:List bw}{i0 i:Nat}{u:ak}(h:i≠i0):aP (i+1) (cO i (jb ps i0 u) (λq=>[cP.enc (ps.getD i (0,[]))].getD q [])) (jb ps i0 u):=λj a=>by
 unfold cO;split
 .rfl
 .have:j=i:=by omega
  subst this;rw[rm];simp only[jb,Dm,aY h];rfl
def wU{ps:List bw}{i0:Nat}{u u':ak}:aP (i0+1) (cO i0 (jb ps i0 u') (λq=>[[.int .i64 (ps.getD i0 (0,[])).1,.val u]].getD q [])) (jb ps i0 u):=λj a=>by
 unfold cO;split
 .simp only[jb,Dm,aY (show j≠i0 by omega)]
 .have:j=i0:=by omega
  subst this;rw[rm];simp only[jb,Dm,bc];rfl
abbrev S3:Type:=Nat×qT×Nat×List ak
def I3(ps:List bw)(i0:Nat)(x:S3):Prop:=x.1<=ps.length/\((x.1<=i0/\x.2.2.1=0)∨(i0<x.1/\x.2.2.1=(ps.getD i0 (0,[])).2.length/\dZ 2 (ps.getD i0 (0,[])).2.length (dE.fn (ps.getD i0 (0,[])).2) x.2.2.2))
abbrev Yf(x:S3):aV:=.dz (hJ 88 2 x.2.1 x.2.2.1 x.2.2.2)
abbrev u3(x:S3):ak:=lB x.2.1 x.2.2.1
def wV(s:aZ)(i0:Nat)(F:i0<s.1.length)(g:0<(s.1.getD i0 (0,[])).2.length)(B:s.1.length<=4000000)(d:∀ p∈s.1,p.2.length<=4000000)(E:s.2.1.length<=4000000)(o:iS s)(y:s.2.2.length<=4000000) :
  cK (ι:=Own (s.1.getD i0 (0,[])).2) X 72 [eH s] [] (λ_=>.e (.agg [.bp 0 (.sl s.1.length 2 0 s.1.length),.bp 1 (.sl s.2.1.length 2 0 s.2.1.length),.c (.sl ae 2 s.2.2.length (cH.fn s.2.2))]))
   (λq=>[.buf 85 2 s.1.length (jb s.1 i0 (lB q.1.1 (s.1.getD i0 (0,[])).2.length)),.buf 64 2 s.2.1.length (cm.fn s.2.1),HK (s.1.getD i0 (0,[])).2 q]):=by
 refine cK.fY tok Tryz.func72 rfl rfl rfl λA=>?_
 have a:bC X [(111,F8),(112,F9)]:=.cons KU (.cons KV .nil);refine aD a [(1000002,ab)] 100 rfl av ?_;refine AK.nc 2 0 85 2 (cP.fn []) rfl rfl ?_;refine AK.nc 2 1 64 2 (cm.fn []) rfl rfl ?_;refine AK.spare 88 2 ?_;refine aD a [] 100 rfl av ?_;refine AK.bO 6 (I3 s.1 i0) (λx:S3=>[(1,.e (.one (.ptr 0 0))),(2,.e (.one (.ptr 1 0))),(3,.e (.one (.ptr 2 0))),(9,cP.sl s.1),(10,dI s.1.length),(11,dI x.1)])
  (λx=>[.cells 27 [.c (.sl ae 2 s.1.length (cP.fn s.1)),.c (.sl ae 2 s.2.1.length (cm.fn s.2.1)),.c (.sl ae 2 s.2.2.length (cH.fn s.2.2))],.cells 27 [dk,dk,dk],.cells 27 [.bp 3 (.sl x.1 2 0 x.1),.bp 4 (.sl 0 2 0 0),dk],.buf 85 2 x.1 (jb s.1 i0 (u3 x)),.buf 64 2 0 (cm.fn []),Yf x]) (λx=>s.1.length-x.1) (0,.nil af,0,[]) rfl ?_ rfl ?_ rfl ⟨by omega,.inl ⟨by omega,rfl⟩⟩ ?_
 .simp[ag.cat,ag,aP.same]
 .simp[ag.cat,ag,aP]
 rintro⟨i,bf,m,xs⟩ ⟨hi,l⟩;simp only at hi l
 by_cases h:i<s.1.length
 .have f:s.1.getD i (0,[])∈s.1:=by grind
  have b:s.1.getD (i:Int).toNat cP.bD=s.1.getD i (0,[]):=by grind
  by_cases t:i=i0
  .subst t;have v:m=0:=by rcases l with⟨_,C⟩|⟨D,_⟩ <;> omega
   have w:=d _ f;refine aD a [(12,ab),(1000005,ab)] 100 rfl ?_ ?_
   .simp only[ag,bu,ba,aF,aC];and_intros <;> omega
   rw[b];generalize n:s.1.getD i (0,[])=p at *;refine AK.NT (ι:=Own p.2) eh 3 5 4 (λk=>bo k 2) (λk=>[.e (.one (.ptr 2 0)),.e (.one (.bp 3 (.sl i 2 0 i))),xM p].getD k .any) (λq k=>[.any,.any,.any,.e (.agg [.c (.int .i64 p.1),.c (EG p.2 q)]),.e (.one (.c (.sl ab 2 1 (λj=>[[.int .i64 p.1,EG p.2 q]].getD j []))))].getD k .any)
    (λq=>[.cells 27 [.c (.sl ae 2 s.1.length (cP.fn s.1)),.c (.sl ae 2 s.2.1.length (cm.fn s.2.1)),.c (.sl ae 2 s.2.2.length (cH.fn s.2.2))],.cells 27 [dk,dk,dk],.cells 27 [.bp 3 (.sl i 2 0 i),.bp 4 (.sl 0 2 0 0),dk],.buf 85 2 i (jb s.1 i (lB bf m)),.buf 64 2 0 (cm.fn []),.dz (hJ 88 2 bf m xs),.cells 85 [.c (.int .i64 p.1),.c (.sl ae 2 p.2.length (dE.fn p.2))],HK p.2 q])
    rfl rfl rfl rfl rfl rfl rfl (λk h=>by have:=c7 h;omega) rfl
    ⟨OA.bM tok a rfl,OA.bM tok a rfl,OA.bM tok a rfl,av,av,av,av,av,av⟩
    (λq=>⟨OA.bM tok a rfl,OA.bM tok a rfl,OA.bM tok a rfl,av,OA.bM tok a rfl,av⟩)
    (rU.u6 (xR p g w) [] rfl rfl rfl rfl rfl rfl rfl (λ_=>rfl) rfl (λ_=>rfl)) λq=>?_
   refine aD a [(1000006,ab)] 100 rfl ?_ ?_
   .simp only[ag,show i85.bytes=32 from rfl,aF,aC];grind
   refine AK.swap 5 7 (by decide) rfl rfl (λ_ _ h=>h.1) (λ_ _ h=>h.1) ?_
   refine aD a [] 100 rfl ?_ (AK.aQ (i+1,q.1.1,p.2.length,q.1.2) rfl ?_ ?_ ?_ ?_)
   .simp only[ag,bu,aC];omega
   .simp[ag.cat,ag,aP.same]
   .have e:=wU (ps:=s.1) (i0:=i) (u:=lB q.1.1 p.2.length) (u':=lB bf m);rw[n] at e;simp only[ag.cat,ag,aC,aF];exact⟨⟨aP.same,aP.same,aP.same⟩,⟨aP.same,aP.same,aP.same⟩,⟨rfl,aP.same⟩,e,aP.same⟩
   .refine⟨by grind,.inr ⟨by grind,?_⟩⟩
    grind
   grind
  .refine aD a [(12,ab)] 100 rfl ?_ (AK.aQ (i+1,bf,m,xs) rfl ?_ ?_ ?_ ?_)
   .have q:=d _ f;simp only[ag,b,dE.list_fn,bu];exact⟨by omega,av,av,show (i+1)*32<=_ by omega,dE.aH _,q,by omega,by omega,cj (by omega)⟩
   .simp[ag.cat,ag,aP.same]
   .have e:=yP (ps:=s.1) (u:=lB bf m) t;simp only[ag.cat,ag,b,dE.list_fn,aC,aF];exact⟨⟨aP.same,aP.same,aP.same⟩,⟨aP.same,aP.same,aP.same⟩,⟨rfl,aP.same⟩,e,aP.same⟩
   .refine⟨by grind,?_⟩
    grind
   grind
 obtain rfl:i=s.1.length:=by omega
 obtain⟨_,v,r⟩:i0<s.1.length/\m=(s.1.getD i0 (0,[])).2.length/\dZ 2 (s.1.getD i0 (0,[])).2.length (dE.fn (s.1.getD i0 (0,[])).2) xs:=by
  grind
 subst v;clear l;generalize s.1.getD i0 (0,[])=p at *;refine aD a [(12,ae)] 100 rfl (by simp[ag]) (AK.leaveD rfl rfl ?_)
 refine aD a [] 100 rfl av ?_;refine AK.bO 6 (λi=>i<=s.2.1.length) (λi:Nat=>[(1,.e (.one (.ptr 0 0))),(2,.e (.one (.ptr 1 0))),(3,.e (.one (.ptr 2 0))),(24,cm.sl s.2.1),(25,dI s.2.1.length),(26,dI i)])
  (λi=>[.cells 27 [.c (.sl ae 2 s.1.length (cP.fn s.1)),.c (.sl ae 2 s.2.1.length (cm.fn s.2.1)),.c (.sl ae 2 s.2.2.length (cH.fn s.2.2))],.cells 27 [dk,dk,dk],.cells 27 [.bp 3 (.sl s.1.length 2 0 s.1.length),.bp 4 (.sl i 2 0 i),dk],.buf 85 2 s.1.length (jb s.1 i0 (lB bf p.2.length)),.buf 64 2 i (cm.fn (s.2.1.take i)),.dz (hJ 88 2 bf p.2.length xs)]) (λi=>s.2.1.length-i) 0 rfl ?_ rfl ?_ rfl (by omega) ?_
 .simp[ag.cat,ag,aP.same]
 .simp[ag.cat,ag,aP.same,aP]
 intro i hi
 by_cases h:i<s.2.1.length
 .have f:s.2.1.getD i (0,[])∈s.2.1:=by grind
  have b:s.2.1.getD (i:Int).toNat cm.bD=s.2.1.getD i (0,[]):=by grind
  refine aD a [(27,ab)] 100 rfl ?_ (AK.aQ (i+1) rfl ?_ ?_ ?_ ?_)
  .have q:=o _ f;simp only[ag,b,cL.list_fn,bu];exact⟨by omega,av,av,show (i+1)*32<=_ by omega,cL.aH _,q.1,q.2,by omega,by omega,cj (by omega)⟩
  .simp[ag.cat,ag,aP.same]
  .have e:=cm.gE s.2.1 h (0,[]);simp only[ag.cat,ag,b,cL.list_fn,aC,aF];exact⟨⟨aP.same,aP.same,aP.same⟩,⟨aP.same,aP.same,aP.same⟩,⟨rfl,aP.same⟩,aP.same,e⟩
  .grind
  .omega
 obtain rfl:i=s.2.1.length:=by omega
 rw[b6];refine aD a [(27,ae)] 100 rfl (by simp[ag]) (AK.leaveD rfl rfl ?_)
 refine aD a [] 100 rfl av ?_;refine AK.cQ (wI s.2.2 y) [] rfl ?_;refine aD a [] 100 rfl av ?_;refine AK.dA ⟨(bf,xs),r⟩ [3,4,5] rfl rfl rfl rfl rfl rfl rfl rfl ?_ rfl rfl rfl rfl (λj z=>absurd z (by simp))
 .simp[ag.cat,ag,aP.same]
abbrev Yg(s:aZ)(l:c6)(i0:Nat)(b cap n0:Nat)(a:List ak):List aV:=S8 s l [.buf 85 2 s.1.length (jb s.1 i0 (.slice (aa ⟨b,0,af⟩) n0 cap)),.buf 64 2 s.2.1.length (cm.fn s.2.1),.dz (hJ 88 2 (.row b cap) n0 a)] (aB 3 s.1.length s.1.length) (aB 4 s.2.1.length s.2.1.length) (.c (Dl s.2.2))
def dx(xs:List cA)(m:Nat)(t:Bs):List cA:=xs.set m ((xs.getD m (0,[])).1,t)
def sj{xs:List cA}{m:Nat}{t:Bs}{b vs:List ak}(h:dZ 2 xs.length (dE.fn xs) b)(f:m<xs.length)(g:mN vs [.c (.str t)]):dZ 2 xs.length (dE.fn (dx xs m t)) (b.take (m*2+1)++vs++b.drop (m*2+1+vs.length)):=by
 refine dZ.eU h m 1 f g (by simp) (λj i d=>?_) rfl λq c a=>?_
 .simp[hU.fn,sH,dx,ai,uR,mf d]
 .have e:dE.fn (dx xs m t) m=[.int .i64 (xs.getD m (0,[])).1,.str t]:=by
   simp[hU.fn,sH,dx,ai,uR,f];rfl
  rw[e] at a;rcases q with _|_|q
  .simp at a;subst a;exact .inr ⟨by omega,rfl⟩
  .grind
  .simp at a
def Ls(s:aZ)(l:c6)(C:s.1.length<=4000000)(i0 b cap m:Nat)(xs:List cA)(A:(s.1.getD i0 (0,[])).2=xs)(k:i0<s.1.length)(t:(s.1.getD i0 (0,[])).1=l.2.1)(r:∀ j,j<s.1.length->j≠i0->(s.1.getD j (0,[])).1≠l.2.1)(D:l.2.2.1=m)(p:m<xs.length)(z:xs.length<=4000000)(g:List ak)(v:dZ 2 xs.length (dE.fn xs) g) :
  cK (ι:={ q:List ak // dZ 2 xs.length (dE.fn (dx xs m l.2.2.2)) q }) X 121 [.e (.one (.ptr 6 0)),Ao (th l)] (Yg s l i0 b cap xs.length g) (λ_=>.eJ []) (λq=>Yg s l i0 b cap xs.length q.1):=by
 refine cK.mQ Tryz.func121 rfl rfl rfl (AK.of_code ?_);refine bk rfl av ?_;refine AK.bO 7 (λx:Nat×List ak=>x.1<=s.1.length/\(x.1<=i0->x.2=g)/\(i0<x.1->dZ 2 xs.length (dE.fn (dx xs m l.2.2.2)) x.2)) (λx=>[(0,.e (.one (.ptr 6 0))),(1,Ao (th l)),(8,.e (.one (aB 3 s.1.length s.1.length))),(9,dI s.1.length),(10,dI x.1)]) (λx=>Yg s l i0 b cap xs.length x.2) (λx=>s.1.length-x.1) (0,g) rfl ?_ rfl ?_ rfl ⟨by omega,λ_=>rfl,λh=>by omega⟩ ?_
 .simp[ag.cat,ag,aP.same]
 .simp[ag.cat,ag,aP.same]
 rintro⟨i,a⟩ ⟨hi,d,f⟩;simp only at hi d f;have u:0+(i:Int).toNat=i:=by omega
 by_cases h:i<s.1.length
 .by_cases n:i=i0
  .subst n;obtain rfl:=d (bg _);refine aX [(11,ab)] 12 rfl ?_ ?_
   .simp only[ag,ba,aF,aC];and_intros <;> omega
   refine AK.law (bF.BC tok (e:=.agg [.c (.int .i64 l.2.1),.c (.val (.slice (aa ⟨b,0,af⟩) xs.length cap))]) rfl rfl rfl rfl rfl ?_ ?_) rfl rfl ?_
   .show aa (E1.agg [.c (.int .i64 (s.1.getD (0+(i:Int).toNat) (0,[])).1),.c (Dm s.1 i (.slice (aa ⟨b,0,af⟩) xs.length cap) (0+(i:Int).toNat))])=_;rw[u,t,Dm,bc rfl]
   .show 0+(i:Int).toNat<_;omega
   refine aX [(19,ab),(24,ab),(31,ab)] 100 rfl ?_ ?_
   .simp only[ag,bu,ba,dH,aF,aC];and_intros <;> omega
   have y:=v.len;have w:0+l.2.2.1.toNat*2+1=m*2+1:=by omega
   refine AK.DF tok 5 rfl rfl rfl rfl rfl rfl rfl ?_ rfl rfl λvs MS=>?_
   .show 0+l.2.2.1.toNat*2+1+1<=a.length;omega
   have B:=sj v p MS;refine bk rfl ?_ (AK.aQ (i+1,a.take (m*2+1)++vs++a.drop (m*2+1+vs.length)) rfl ?_ ?_ ?_ ?_)
   .simp only[ag,bu,aC];omega
   .simp[ag.cat,ag,aP.same]
   .simp only[ag.cat,ag,aP.same,aC,aF];show hJ 88 2 _ _ (List.take (0+l.2.2.1.toNat*2+1) a++vs++List.drop (0+l.2.2.1.toNat*2+1+vs.length) a)=_;rw[w]
   .grind
   grind
  .have o:=r i h n;refine aX [(11,ab)] 12 rfl ?_ ?_
   .simp only[ag,ba,aF,aC];and_intros <;> omega
   refine AK.law (bF.BC tok (e:=.agg [.c (.int .i64 (s.1.getD i (0,[])).1),.c (.sl ae 2 (s.1.getD i (0,[])).2.length (dE.fn (s.1.getD i (0,[])).2))]) rfl rfl rfl rfl rfl ?_ ?_) rfl rfl ?_
   .show aa (E1.agg [.c (.int .i64 (s.1.getD (0+(i:Int).toNat) (0,[])).1),.c (Dm s.1 i0 (.slice (aa ⟨b,0,af⟩) xs.length cap) (0+(i:Int).toNat))])=_;rw[u,Dm,aY n]
   .show 0+(i:Int).toNat<_;omega
   refine aX [(19,ae),(24,ae),(31,ae)] 100 rfl ?_ (AK.aQ (i+1,a) rfl ?_ ?_ ?_ ?_)
   .simp only[ag,bu,dm,aF,aC];exact⟨by omega,o⟩
   .simp[ag.cat,ag,aP.same]
   .simp[ag.cat,ag,aP.same]
   .grind
   grind
 obtain rfl:i=s.1.length:=by omega
 refine aX [(11,ae)] 100 rfl (by simp[ag]) (AK.leaveD rfl rfl ?_)
 refine bk rfl av ?_;exact⟨⟨a,f k⟩,.inr rfl,rfl,rfl,_,_,_,rfl,rfl,rfl,av⟩
structure S9 (s:aZ)(l:c6)(i0 m:Nat):Prop where
 i:i0<s.1.length
 no:(s.1.getD i0 (0,[])).1=l.2.1
 ne:∀ j,j<s.1.length->j≠i0->(s.1.getD j (0,[])).1≠l.2.1
 at':l.2.2.1=m
 ml:m<(s.1.getD i0 (0,[])).2.length
def tY(xs:List cA)(m:Nat)(t:Bs):(dx xs m t).length=xs.length:=by simp[dx]
def nn{s:aZ}{i0:Nat}(h:i0<s.1.length):s.1.getD i0 (0,[])∈s.1:=by grind
set_option maxRecDepth 20000 in
def AG(s:aZ)(l:c6)(d:dF s)(h:l.1=3)(i0 m:Nat)(a:S9 s l i0 m) :
  cK (ι:={ q:qT×List ak // dZ 2 (s.1.getD i0 (0,[])).2.length (dE.fn (dx (s.1.getD i0 (0,[])).2 m l.2.2.2)) q.2 }) X 42 [eH s,gf l] []
   (λ_=>.e (.agg [aB 0 s.1.length s.1.length,aB 1 s.2.1.length s.2.1.length,.c (Dl s.2.2)]))
   (λq=>[.buf 85 2 s.1.length (jb s.1 i0 (lB q.1.1 (s.1.getD i0 (0,[])).2.length)),.buf 64 2 s.2.1.length (cm.fn s.2.1),.dz (hJ 88 2 q.1.1 (s.1.getD i0 (0,[])).2.length q.1.2)]):=by
 have g:=a.ml;have j:=d.p2 _ (nn a.i);refine cK.fY tok Tryz.func42 rfl rfl rfl λt=>?_
 refine bk rfl av ?_;refine AK.cP (wV s i0 a.i (by omega) d.p d.p2 d.sn d.s2 d.h) [] rfl (λ_=>rfl) ?_
 rintro⟨⟨bf,k⟩,n⟩;refine AK.Jg (hJ.len (l:=5) rfl) λf=>?_
 obtain⟨b,cap,rfl⟩:=f.2.2.1 (by omega)
 refine bk rfl av ?_;refine AK.cQ (wL l h) [] rfl ?_;refine bk rfl av ?_;refine AK.nG (Ls s l d.p i0 b cap m _ rfl a.i a.no a.ne a.at' g j k n) rfl rfl rfl rfl ?_ rfl ?_
 .simp[ag,ag.cat,aP.same]
 rintro⟨o,r⟩;refine bk rfl av ?_;refine AK.dA ⟨(.row b cap,o),r⟩ [3,4,5] rfl rfl rfl rfl rfl rfl rfl rfl ?_ rfl rfl rfl rfl fN;simp[ag.cat,ag,aP.same]
abbrev gK(s:aZ)(l:c6)(i0 m:Nat):aZ:=(s.1.set i0 ((s.1.getD i0 (0,[])).1,dx (s.1.getD i0 (0,[])).2 m l.2.2.2),s.2.1,s.2.2)
def HM{f:aW}{args:List D}(s:aZ)(l:c6)(i0 m:Nat)(hi:i0<s.1.length)
  (a:cK (ι:={ q:qT×List ak // dZ 2 (s.1.getD i0 (0,[])).2.length (dE.fn (dx (s.1.getD i0 (0,[])).2 m l.2.2.2)) q.2 }) X f args []
   (λ_=>.e (.agg [aB 0 s.1.length s.1.length,aB 1 s.2.1.length s.2.1.length,.c (Dl s.2.2)]))
   (λq=>[.buf 85 2 s.1.length (jb s.1 i0 (lB q.1.1 (s.1.getD i0 (0,[])).2.length)),.buf 64 2 s.2.1.length (cm.fn s.2.1),.dz (hJ 88 2 q.1.1 (s.1.getD i0 (0,[])).2.length q.1.2)])) :
  Ev X f args [] (eH (gK s l i0 m)) []:=by
 generalize u:s.1.getD i0 (0,[])=p at *;have o:∀ j,j≠i0->cP.fn (gK s l i0 m).1 j=cP.fn s.1 j:=λj g=>by
  simp[hU.fn,sH,ai,uR,mf g]
 have i:cP.fn (gK s l i0 m).1 i0=[.int .i64 p.1,.sl ae 2 p.2.length (dE.fn (dx p.2 m l.2.2.2))]:=by
  have:(gK s l i0 m).1.getD i0 cP.bD=(p.1,dx p.2 m l.2.2.2):=by
   grind
  show cP.enc ((gK s l i0 m).1.getD i0 cP.bD)=_;rw[this];show [C.int .i64 p.1,C.sl ae 2 (dx p.2 m l.2.2.2).length (dE.fn (dx p.2 m l.2.2.2))]=_;rw[tY]
 have v:=cK.zP (σ1:=λq:{ q:qT×List ak // dZ 2 p.2.length (dE.fn (dx p.2 m l.2.2.2)) q.2 }=>[.buf 85 2 s.1.length (jb s.1 i0 (lB q.1.1 p.2.length)),.buf 64 2 s.2.1.length (cm.fn s.2.1)]) (σ2:=λ_=>[.buf 85 2 s.1.length (cP.fn (gK s l i0 m).1),.buf 64 2 s.2.1.length (cm.fn s.2.1)]) (E:=88) (k:=2) (n:=p.2.length) (bf:=λq=>q.1.1) (xs:=λq=>q.1.2) a (λq=>q.2) 0 (λ_=>rfl) (λ_=>rfl) (λ_=>rfl) (λ_=>rfl) (λ_=>gB _)
  (λq j g=>by
   by_cases h:j=i0
   .subst h;rw[i];rfl
   .rw[o j h];rfl)
  (λq j g r t d=>by
   by_cases h:j=i0
   .subst h;rw[i] at d;have:jb s.1 j (lB q.1.1 p.2.length) j=[.int .i64 p.1,.val (lB q.1.1 p.2.length)]:=by simp only[jb,Dm,cq,u]
    rw[this];rcases r with _|_|r
    .simp at d;subst d;exact⟨_,rfl,.inl rfl⟩
    .simp at d;subst d;exact⟨_,rfl,.inr ⟨rfl,rfl⟩⟩
    .simp at d
   .rw[o j h] at d;have:jb s.1 i0 (lB q.1.1 p.2.length) j=cP.fn s.1 j:=by simp only[jb,Dm,aY h];rfl
    rw[this];exact⟨t,d,.inl rfl⟩)
 have b:=cK.iY (σ1:=λ_=>[.buf 85 2 s.1.length (cP.fn (gK s l i0 m).1)]) (E:=64) (k:=2) (n:=λ_=>s.2.1.length) (es:=λ_=>cm.fn s.2.1) v (λ_=>rfl) (λ_=>?_) (λ_=>rfl) (λ_=>gB _)
 have c:=cK.iY (σ1:=λ_=>[]) (E:=85) (k:=2) (n:=λ_=>s.1.length) (es:=λ_=>cP.fn (gK s l i0 m).1) b (λ_=>rfl) (λ_=>?_) (λ_=>rfl) (λ_=>bg _)
 refine(c.le (res':=λ_=>eH (gK s l i0 m)) (λ_=>rfl) (λ_=>?_)).one
 .simp only[ag.cat,ag,aC,aF,pH];exact⟨aP.same,aP.same,aP.same⟩
 .simp[ag.cat,ag]
 .simp[ag.cat,ag]
set_option maxRecDepth 20000 in
def Cq(s:aZ)(l:c6)(b:dF s)(h:l.1=3)(i0 m:Nat)(a:S9 s l i0 m):Ev X 42 [eH s,gf l] [] (eH (gK s l i0 m)) [] :=
 HM s l i0 m a.i (AG s l b h i0 m a)
abbrev OF(s:aZ)(i:Nat)(es:Nat->List C)(j:Nat)(q:List cC)(bf:qT)(m:Nat)(xs:List ak):List aV:=[HA s,.cells 27 [dk,dk,dk],.buf 85 2 i es,.buf 64 2 j (cm.fn q),.buf 90 2 s.2.2.length (cH.fn s.2.2),.cells 27 [.bp 2 (.sl i 2 0 i),.bp 3 (.sl j 2 0 j),.bp 4 (.sl s.2.2.length 2 0 s.2.2.length)],.dz (hJ 88 2 bf m xs)]
def EH(s:aZ)(i0:Nat)(G:i0<s.1.length)(b:0<(s.1.getD i0 (0,[])).2.length)(B:s.1.length<=4000000)(l:∀ p∈s.1,p.2.length<=4000000)(F:s.2.1.length<=4000000)(t:iS s)(H:s.2.2.length<=4000000) :
  cK (ι:=Own (s.1.getD i0 (0,[])).2) X 38 [eH s] [] (λ_=>.e (.agg [.bp 0 (.sl s.1.length 2 0 s.1.length),.bp 1 (.sl s.2.1.length 2 0 s.2.1.length),.bp 2 (.sl s.2.2.length 2 0 s.2.2.length)]))
   (λq=>[.buf 85 2 s.1.length (jb s.1 i0 (lB q.1.1 (s.1.getD i0 (0,[])).2.length)),.buf 64 2 s.2.1.length (cm.fn s.2.1),.buf 90 2 s.2.2.length (cH.fn s.2.2),HK (s.1.getD i0 (0,[])).2 q]):=by
 refine cK.fY tok Tryz.func38 rfl rfl rfl λA=>?_
 refine aX [(1000001,ab)] 200 rfl av ?_;refine AK.region ?_;refine aX [] 5 rfl av ?_;refine AK.wh 9 85 2 (cP.fn []) rfl ?_;refine AK.wh 10 64 2 (cm.fn []) rfl ?_;refine AK.wh 11 90 2 (cH.fn []) rfl ?_;refine aX [(1000002,ab)] 200 rfl ?_ ?_
 .simp only[ag,show i90.bytes=16 from rfl,aF,aC];grind
 refine AK.spare 88 2 ?_;refine dO rfl av ?_;refine AK.bO 7 (I3 s.1 i0) (λx:S3=>[(1,.e (.one (.ptr 0 0))),(2,.e (.one (.ptr 1 0))),(3,.e (.one (.ptr 5 0))),(4,dI x.1)]) (λx=>OF s x.1 (jb s.1 i0 (u3 x)) 0 [] x.2.1 x.2.2.1 x.2.2.2) (λx=>s.1.length-x.1) (0,.nil af,0,[]) rfl ?_ rfl ?_ rfl ⟨by omega,.inl ⟨by omega,rfl⟩⟩ ?_
 .simp[ag.cat,ag]
 .simp[ag.cat,ag,aP,gn];rfl
 rintro⟨i,bf,m,xs⟩ ⟨hi,n⟩;simp only at hi n
 by_cases h:i<s.1.length
 .have g:s.1.getD i (0,[])∈s.1:=by grind
  have a:s.1.getD (i:Int).toNat cP.bD=s.1.getD i (0,[]):=by grind
  have q:=l _ g
  by_cases f:i=i0
  .subst f;have w:m=0:=by rcases n with⟨_,C⟩|⟨D,_⟩ <;> omega
   rw[<-a] at b q;refine aX [(20,ab),(1000005,ab)] 100 rfl ?_ ?_
   .simp only[ag,bu,ba,aF,aC];omega
   refine AK.NT (ι:=Own (s.1.getD (i:Int).toNat cP.bD).2) eh 15 18 8 (λk=>bo k 14)
    (λk=>[.e (.one (.ptr 5 0)),.e (.one (.bp 2 (.sl i 2 0 i))),.e (.one (.ptr 0 0)),cP.sl s.1,dI i,Ao [.int .i64 (s.1.getD (i:Int).toNat cP.bD).1,sP (s.1.getD (i:Int).toNat cP.bD)],Ao [.int .i64 (s.1.getD (i:Int).toNat cP.bD).1,sP (s.1.getD (i:Int).toNat cP.bD)],dI (s.1.getD (i:Int).toNat cP.bD).1,
     .e (.one (.c (.sl ab 2 0 (λj=>[].getD j [])))),.e (.one (.ptr 0 0)),cP.sl s.1,dI i,Ao [.int .i64 (s.1.getD (i:Int).toNat cP.bD).1,sP (s.1.getD (i:Int).toNat cP.bD)],Ao [sP (s.1.getD (i:Int).toNat cP.bD)],.e (.one (.c (sP (s.1.getD (i:Int).toNat cP.bD))))].getD k .any)
    (λq k=>[.e (.one (.c (EG _ q))),.e (.agg [.c (.int .i64 (s.1.getD (i:Int).toNat cP.bD).1),.c (EG _ q)]),.e (.one (.c (.sl ab 2 1 (λj=>[[.int .i64 (s.1.getD (i:Int).toNat cP.bD).1,EG _ q]].getD j []))))].getD (k-15) .any)
    (λq=>OF s i (jb s.1 i (lB bf m)) 0 [] bf m xs++[HK _ q])
    rfl rfl rfl rfl rfl rfl rfl (λk h=>by have:=c7 h;omega) rfl
    ⟨OA.bM tok bC.nil rfl,OA.bM tok bC.nil rfl,OA.bM tok bC.nil rfl,OA.bM tok bC.nil rfl,OA.bM tok bC.nil rfl,OA.eval (ds:=[]) tok bC.nil rfl ?_,OA.bM tok bC.nil rfl,OA.bM tok bC.nil rfl,OA.bM tok bC.nil rfl,OA.bM tok bC.nil rfl,OA.bM tok bC.nil rfl,OA.bM tok bC.nil rfl,OA.eval (ds:=[]) tok bC.nil rfl ?_,OA.bM tok bC.nil rfl,OA.bM tok bC.nil rfl,av,av,av,av,av,av,av⟩
    (λq=>⟨OA.bM tok bC.nil rfl,OA.bM tok bC.nil rfl,OA.bM tok bC.nil rfl,OA.bM tok bC.nil rfl,OA.bM tok bC.nil rfl,OA.eval (ds:=[]) tok bC.nil rfl ?_,OA.bM tok bC.nil rfl,OA.bM tok bC.nil rfl,OA.bM tok bC.nil rfl,OA.bM tok bC.nil rfl,OA.bM tok bC.nil rfl,OA.bM tok bC.nil rfl,OA.eval (ds:=[]) tok bC.nil rfl ?_,OA.bM tok bC.nil rfl,OA.bM tok bC.nil rfl,av,OA.bM tok bC.nil rfl,OA.bM tok bC.nil rfl,av⟩)
    (rU.Q2 rfl (BJ.fresh (P8 rfl) rfl rfl rfl b (by show _*24<=_;omega) (Gf _ _))) ?_
   .simp only[ag,aC];omega
   .simp only[ag,aC];omega
   .simp only[ag,aC];omega
   .simp only[ag,aC];omega
   rw[a];rw[a] at b q;generalize o:s.1.getD i (0,[])=p at *;intro r;refine aX [(1000004,ab)] 100 rfl ?_ ?_
   .simp only[ag,show i85.bytes=32 from rfl,aF,aC];grind
   refine AK.swap 6 7 (by decide) rfl rfl (λ_ _ h=>h.1) (λ_ _ h=>h.1) ?_
   refine bk rfl ?_ (AK.aQ (i+1,r.1.1,p.2.length,r.1.2) rfl ?_ ?_ ?_ ?_)
   .simp only[ag,bu,aC];omega
   .simp[ag.cat,ag,aP.same]
   .have e:=wU (ps:=s.1) (i0:=i) (u:=lB r.1.1 p.2.length) (u':=lB bf m);rw[o] at e;simp only[ag.cat,ag,aC,aF]
    and_intros <;> first|exactλ_ _=>rfl|exact e|rfl
   .refine⟨by grind,.inr ⟨by grind,?_⟩⟩
    grind
   grind
  .refine aX [(20,ab),(2000038,ab)] 200 rfl ?_ (AK.aQ (i+1,bf,m,xs) rfl ?_ ?_ ?_ ?_)
   .simp only[ag,a,bu,show i85.bytes=32 from rfl,show i88.bytes=24 from rfl,ba,gg,aF,aC];and_intros <;> omega
   .simp[ag.cat,ag]
   .have e:=yP (ps:=s.1) (u:=lB bf m) f;simp only[ag.cat,ag,a,gn,bt,aC,aF]
    and_intros <;> first|exactλ_ _=>rfl|exact e|rfl
   .refine⟨by grind,?_⟩
    grind
   grind
 obtain rfl:i=s.1.length:=by omega
 obtain⟨_,w,v⟩:i0<s.1.length/\m=(s.1.getD i0 (0,[])).2.length/\dZ 2 (s.1.getD i0 (0,[])).2.length (dE.fn (s.1.getD i0 (0,[])).2) xs:=by
  grind
 subst w;clear n;generalize s.1.getD i0 (0,[])=pp at *;refine aX [(20,ae)] 200 rfl (by simp[ag]) (AK.leaveD rfl rfl ?_)
 refine dO rfl av ?_;refine AK.bO 7 (λi=>i<=s.2.1.length) (λi:Nat=>[(1,.e (.one (.ptr 0 0))),(2,.e (.one (.ptr 1 0))),(3,.e (.one (.ptr 5 0))),(5,dI i)]) (λi=>OF s s.1.length (jb s.1 i0 (lB bf pp.2.length)) i (s.2.1.take i) bf pp.2.length xs) (λi=>s.2.1.length-i) 0 rfl ?_ rfl ?_ rfl (by omega) ?_
 .simp[ag.cat,ag]
 .simp[ag.cat,ag,aP.same,aP]
 intro i hi
 by_cases h:i<s.2.1.length
 .have g:s.2.1.getD i (0,[])∈s.2.1:=by grind
  have a:s.2.1.getD (i:Int).toNat cm.bD=s.2.1.getD i (0,[]):=by grind
  have q:=t _ g;have e:=cm.gE s.2.1 h (0,[]);generalize s.2.1.getD i (0,[])=x at *;refine aX [(47,ab),(1000010,ab)] 200 rfl ?_ ?_
  .simp only[ag,a,ba,gg,aF,aC];and_intros <;> omega
  rw[a];refine AK.gj 7 1 92 2 (cL.fn []) rfl rfl ?_;refine dO rfl av ?_;refine AK.bO 9 (λj=>j<=x.2.length) (λj:Nat=>[(1,.e (.one (.ptr 0 0))),(2,.e (.one (.ptr 1 0))),(3,.e (.one (.ptr 5 0))),(5,dI i),(6,.e (.one (.ptr 7 0))),(7,dI j)]) (λj=>OF s s.1.length (jb s.1 i0 (lB bf pp.2.length)) i (s.2.1.take i) bf pp.2.length xs++[.cells 64 [.c (.int .i64 x.1),.vec 8 2 j (cL.fn (x.2.take j))],.vec 92 2 j (cL.fn (x.2.take j))]) (λj=>x.2.length-j) 0 rfl ?_ rfl ?_ rfl (by omega) ?_
  .simp[ag.cat,ag]
  .simp[ag.cat,ag,aP.same,aP]
  intro j y
  by_cases f:j<x.2.length
  .have d:x.2.getD (j:Int).toNat cL.bD=x.2.getD j ([],[]):=by grind
   have E:=q.2 (x.2.getD j ([],[])) (by grind)
   have z:=cL.gE x.2 f ([],[]);refine aX [(66,ab),(2000085,ab)] 200 rfl ?_ (AK.aQ (j+1) rfl ?_ ?_ ?_ ?_)
   .simp only[ag,a,d,bu,show i92.bytes=40 from rfl,show i3.bytes=8 from rfl,ba,gg,aF,aC];and_intros <;> omega
   .simp[ag.cat,ag]
   .simp only[ag.cat,ag,a,d,gn,bt,aC,aF]
    and_intros <;> first|exactλ_ _=>rfl|exact z|rfl
   .grind
   .omega
  obtain rfl:j=x.2.length:=by omega
  rw[b6];refine aX [(66,ae)] 200 rfl ?_ (AK.leaveD rfl rfl ?_)
  .simp only[ag,a,bJ];and_intros <;> omega
  refine dO rfl ?_ (AK.aQ (i+1) rfl ?_ ?_ ?_ ?_)
  .simp only[ag,a,bu,show i64.bytes=32 from rfl,aF,aC];and_intros <;> omega
  .simp[ag.cat,ag]
  .simp only[ag.cat,ag,aC,aF]
   and_intros <;> first|exactλ_ _=>rfl|exact e|rfl
  .grind
  .omega
 obtain rfl:i=s.2.1.length:=by omega
 rw[b6];refine aX [(47,ae)] 200 rfl (by simp[ag]) (AK.leaveD rfl rfl ?_)
 refine dO rfl av ?_;refine AK.dA ⟨(bf,xs),v⟩ [2,3,4,6] rfl rfl rfl rfl rfl rfl rfl rfl ?_ rfl rfl rfl rfl (λj y=>absurd y (by simp))
 .simp[ag.cat,ag,aP.same]
def EA(s:aZ) (n:Int)(c:s.2.2.length<=4000000)(h:n<0∨n>s.2.2.length):Ev X 39 [eH s,dI n] [] (eH s) []:=by
 refine Ev.iu tok Tryz.func39 rfl rfl rfl λd=>?_
 have b:bC X [(15,n3)]:=.cons oF .nil;refine aD b [(15,ab)] 200 rfl (by simp[ag];omega) ?_
 refine AK.dA () [] rfl rfl rfl rfl rfl rfl rfl rfl ?_ rfl rfl rfl rfl (λj a=>absurd a (by simp))
 simp[ag.cat,ag,aP.same]
abbrev oq(n:Nat)(s:aZ)(q:List cC):List cC:=q.filter λx=>!gT n s.2.2 x
abbrev yH(n:Nat)(s:aZ)(j:Nat)(x:cC):Bool:=((s.2.2.drop n).take j).any λh=>h.2==x.1
abbrev bkB(s:aZ)(n:Nat)(ks:List cC):List aV:=[.cells 27 [.c (sPs s.1),.c (sSs s.2.1),.c (Dl (s.2.2.take n))],.cells 27 [dk,dk,dk],.vec 64 2 ks.length (cm.fn ks)]
def tV{α:Type}(p:α->Bool){l:List α}{i:Nat}(h:i<l.length)(d:α):(l.take (i+1)).filter p=(l.take i).filter p++(if p (l.getD i d) then [l.getD i d] else []):=by
 grind [bq]
def Lj{α:Type}(p:α->Bool){l:List α}{i:Nat}(h:i<l.length)(d:α):(l.take (i+1)).any p=((l.take i).any p||p (l.getD i d)):=by
 grind [bq]
def EB(s:aZ)(n:Nat)(z:n<=s.2.2.length)(w:s.2.1.length<=4000000)(k:∀ x∈s.2.1,-4000000<=x.1/\x.1<=4000000)(y:s.2.2.length<=4000000):Ev X 39 [eH s,dI n] [] (eH (s.1,oq n s s.2.1,s.2.2.take n)) []:=by
 refine Ev.iu tok Tryz.func39 rfl rfl rfl λv=>?_
 have a:bC X [(15,n3)]:=.cons oF .nil;refine aD a [(15,ae),(1000006,ab)] 100 rfl ?_ ?_
 .simp[ag,iP];omega
 refine AK.ir 6 64 2 rfl rfl ?_;refine aD a [] 100 rfl av ?_;refine AK.bO 3 (λi=>i<=s.2.1.length) (λi:Nat=>[(2,.e (.one (.ptr 0 0))),(4,.e (.one (.ptr 1 0))),(5,cH.sl (s.2.2.drop n)),(6,.e (.one (.vec 2 2 (oq n s (s.2.1.take i)).length (cm.fn (oq n s (s.2.1.take i)))))),(7,dI i)]) (λi=>bkB s n (oq n s (s.2.1.take i))) (λi=>s.2.1.length-i) 0 rfl ?_ rfl ?_ rfl (by omega) ?_
 .have e:=cH.Ga s.2.2 n (s.2.2.length-n);simp[ag.cat,ag,aP.same,aP.nil,cr];exact e
 .simp[ag.cat,ag,aP.same,aP.nil,cr];exact⟨by omega,λi hi=>by
   have g:i<n:=hi;simp[jK,cr,hU.fn,sH,ai,gO,g]⟩
 intro i hi
 by_cases h:i<s.2.1.length
 .have u:s.2.1.getD i (0,[])∈s.2.1:=by grind
  have c:s.2.1.getD (i:Int).toNat cm.bD=s.2.1.getD i (0,[]):=by grind
  have q:=k _ u;have e:=cm.gE s.2.1 h (0,[]);have m:oq n s (s.2.1.take (i+1))=oq n s (s.2.1.take i)++(if !gT n s.2.2 (s.2.1.getD i (0,[])) then [s.2.1.getD i (0,[])] else []):=tV (λx=>!gT n s.2.2 x) h (0,[])
  have r:(oq n s (s.2.1.take i)).length<=i:=eK (j3 _ _) (by grind)
  generalize oq n s (s.2.1.take i)=ks at *;generalize s.2.1.getD i (0,[])=x at *;refine aD a [(31,ab)] 200 rfl ?_ ?_
  .simp only[ag,c,ba,gg,aF,aC];grind
  refine AK.bO 3 (λj=>j<=(s.2.2.drop n).length) (λj:Nat=>[(2,.e (.one (.ptr 0 0))),(4,.e (.one (.ptr 1 0))),(5,cH.sl (s.2.2.drop n)),(6,.e (.one (.vec 2 2 ks.length (cm.fn ks)))),(7,dI i),(8,dB (yH n s j x)),(9,dI j)]) (λj=>bkB s n ks) (λj=>(s.2.2.drop n).length-j) 0 rfl ?_ rfl ?_ rfl (by omega) ?_
  .simp[ag.cat,ag,aP.same]
  .simp[ag.cat,ag,aP.same]
  intro j o;have p:=oJ (i:=n) (l:=s.2.2)
  by_cases t:j<(s.2.2.drop n).length
  .have b:(s.2.2.drop n).getD (j:Int).toNat cH.bD=(s.2.2.drop n).getD j (0,0):=by grind
   have d:yH n s (j+1) x=(yH n s j x||((s.2.2.drop n).getD j (0,0)).2==x.1):=Lj (λh:Int×Int=>h.2==x.1) t (0,0)
   cases f:yH n s j x with
   |true =>
    refine aD a [(37,ab)] 200 rfl ?_ (AK.aQ (j+1) rfl ?_ ?_ ?_ ?_)
    .simp only[ag,c,b,ba,gg,aF,aC];and_intros <;> omega
    .rw[f] at d;simp[ag.cat,ag,aP.same,d]
    .simp[ag.cat,ag,aP.same]
    .grind
    .omega
   |false =>
    refine aD a [(37,ab)] 200 rfl ?_ (AK.aQ (j+1) rfl ?_ ?_ ?_ ?_)
    .simp only[ag,c,b,ba,gg,aF,aC];and_intros <;> omega
    .rw[f] at d;simp only[ag.cat,ag,aP.same,d,c,b,aF,aC,Bool.false_or];rfl
    .simp[ag.cat,ag,aP.same]
    .grind
    .omega
  obtain rfl:j=(s.2.2.drop n).length:=by omega
  have d:yH n s (s.2.2.drop n).length x=gT n s.2.2 x:=by unfold yH gT;grind
  rw[d];cases f:gT n s.2.2 x with
  |true =>
   rw[f] at m;refine aD a [(37,ae)] 200 rfl ?_ (AK.leaveD rfl rfl ?_)
   .simp[ag]
   refine aD a [] 200 rfl ?_ (AK.aQ (i+1) rfl ?_ ?_ ?_ ?_)
   .simp only[ag,bu,aF,aC];omega
   .have:oq n s (s.2.1.take (i+1))=ks:=by grind
    rw[this];simp only[ag.cat,ag,aP.same,aF,aC];rfl
   .rw[show oq n s (s.2.1.take (i+1))=ks by grind]
    simp[ag.cat,ag,aP.same]
   .grind
   .omega
  |false =>
   rw[f] at m;refine aD a [(37,ae)] 200 rfl ?_ (AK.leaveD rfl rfl ?_)
   .simp[ag]
   refine aD a [] 200 rfl ?_ (AK.aQ (i+1) rfl ?_ ?_ ?_ ?_)
   .simp only[ag,bu,show i64.bytes=32 from rfl,aF,aC];and_intros <;> omega
   .rw[show oq n s (s.2.1.take (i+1))=ks++[x] by grind]
    simp only[ag.cat,ag,c,aP.same,aF,aC,bP,er];exact⟨cm.cn ks x,rfl⟩
   .rw[show oq n s (s.2.1.take (i+1))=ks++[x] by grind]
    simp only[ag.cat,ag,c,aP.same,aF,aC,bP,er];exact cm.cn ks x
   .grind
   .omega
 obtain rfl:i=s.2.1.length:=by omega
 rw[b6];refine aD a [(31,ae)] 200 rfl (by simp[ag]) (AK.leaveD rfl rfl ?_)
 refine aD a [] 200 rfl av ?_;refine AK.dA () [] rfl rfl rfl rfl rfl rfl rfl rfl ?_ rfl rfl rfl rfl (λj o=>absurd o (by simp))
 simp[ag.cat,ag,aP.same]
def HD(s:aZ)(l:c6)(a:dF s)(e:l.1≠1)(b:l.1≠2)(c:l.1≠3)(d:l.1≠4):Ev X 17 [eH s,gf l] [] (eH s) []:=by
 refine Ev.iu tok Tryz.func17 rfl rfl rfl λg=>?_
 refine bk rfl av ?_;refine AK.cQ (fw s a.p a.p2 a.sn a.s2 a.h) [] rfl ?_;refine aX [(13,ae),(42,ae),(48,ae),(91,ae)] 100 rfl ?_ ?_
 .simp[ag,e,b,c,d]
 refine AK.dA () [] rfl rfl rfl rfl rfl rfl rfl rfl ?_ rfl rfl rfl rfl (λj f=>absurd f (by simp))
 simp[ag.cat,ag,aP.same]
def yI(s:aZ)(l:c6)(s':aZ)(a:dF s)(c:l.1=2)(b:Ev X 39 [eH s,dI l.2.1] [] (eH s') []):Ev X 17 [eH s,gf l] [] (eH s') []:=by
 refine Ev.iu tok Tryz.func17 rfl rfl rfl λe=>?_
 refine bk rfl av ?_;refine AK.cQ (fw s a.p a.p2 a.sn a.s2 a.h) [] rfl ?_;refine aX [(13,ae),(42,ab)] 100 rfl ?_ ?_
 .simp[ag,c]
 refine AK.mm b.Bc [] rfl rfl rfl rfl ?_ rfl rfl rfl (λ_=>rfl) rfl (λ_=>rfl) rfl ?_
 .simp[ag.cat,ag,aP.same]
 rintro -;refine bk rfl av ?_;refine AK.dA () [] rfl rfl rfl rfl rfl rfl rfl rfl ?_ rfl rfl rfl rfl (λj d=>absurd d (by simp))
 simp[ag.cat,ag,aP.same]
abbrev ph(n:Int)(q:List bw):List bw:=q.filter λx=>!(x.1==n)
abbrev Yb(s:aZ)(l:c6)(ks:List bw):List aV:=[HA s,.cells 32 (KW l),.cells 27 [dk,dk,dk],.vec 85 2 s.1.length (cP.fn s.1),.vec 64 2 s.2.1.length (cm.fn s.2.1),.vec 90 2 s.2.2.length (cH.fn s.2.2),
 .cells 27 [.vec 3 2 s.1.length (cP.fn s.1),.vec 4 2 s.2.1.length (cm.fn s.2.1),.vec 5 2 s.2.2.length (cH.fn s.2.2)],.vec 85 2 ks.length (cP.fn ks)]
def HE(s:aZ)(l:c6)(a:dF s)(k:l.1=1):Ev X 17 [eH s,gf l] [] (eH (s.1.filter λx=>!(x.1==l.2.1),s.2.1,s.2.2)) []:=by
 refine Ev.iu tok Tryz.func17 rfl rfl rfl λn=>?_
 refine bk rfl av ?_;refine AK.cQ (fw s a.p a.p2 a.sn a.s2 a.h) [] rfl ?_;refine aX [(13,ab),(1000005,ab)] 100 rfl ?_ ?_
 .simp[ag,k]
 refine AK.ir 6 85 2 rfl rfl ?_;refine bk rfl av ?_;have g:=a.p;refine AK.bO 8 (λi=>i<=s.1.length) (λi:Nat=>[(3,.e (.one (.ptr 1 0))),(4,.e (.one (.ptr 2 0))),(5,.e (.one (.ptr 6 0))),(6,.e (.one (.vec 7 2 (ph l.2.1 (s.1.take i)).length (cP.fn (ph l.2.1 (s.1.take i)))))),(7,dI i)]) (λi=>Yb s l (ph l.2.1 (s.1.take i))) (λi=>s.1.length-i) 0 rfl ?_ rfl ?_ rfl (by omega) ?_
 .simp[ag.cat,ag,aP.same,aP.nil]
 .simp[ag.cat,ag,aP.same,aP.nil]
 intro i hi
 by_cases h:i<s.1.length
 .have c:s.1.getD (i:Int).toNat cP.bD=s.1.getD i (0,[]):=by rw[bz];rfl
  have b:ph l.2.1 (s.1.take (i+1))=ph l.2.1 (s.1.take i)++(if !((s.1.getD i (0,[])).1==l.2.1) then [s.1.getD i (0,[])] else []):=tV (λx:bw=>!(x.1==l.2.1)) h (0,[])
  have f:(ph l.2.1 (s.1.take i)).length<=i:=eK (j3 _ _) (by simp;omega)
  generalize ph l.2.1 (s.1.take i)=ks at *;generalize s.1.getD i (0,[])=x at *;cases d:x.1==l.2.1 with
  |true =>
   rw[d] at b;refine aX [(20,ab),(31,ae)] 200 rfl ?_ (AK.aQ (i+1) rfl ?_ ?_ ?_ ?_)
   .simp only[ag,c,bu,ba,bJ,gg,aF,aC]
    and_intros <;> first|omega|simp[bne,d]
   .rw[show ph l.2.1 (s.1.take (i+1))=ks by simpa using b]
    simp only[ag.cat,ag,aP.same,aF,aC];rfl
   .rw[show ph l.2.1 (s.1.take (i+1))=ks by simpa using b]
    simp[ag.cat,ag,aP.same]
   .show i+1<=_;omega
   .omega
  |false =>
   rw[d] at b;refine aX [(20,ab),(31,ab)] 200 rfl ?_ (AK.aQ (i+1) rfl ?_ ?_ ?_ ?_)
   .simp only[ag,c,bu,show i85.bytes=32 from rfl,ba,bJ,gg,aF,aC]
    and_intros <;> first|omega|simp[bne,d]
   .rw[show ph l.2.1 (s.1.take (i+1))=ks++[x] by simpa using b]
    simp only[ag.cat,ag,c,aP.same,aF,aC,bP,er];exact⟨cP.cn ks x,rfl⟩
   .rw[show ph l.2.1 (s.1.take (i+1))=ks++[x] by simpa using b]
    simp only[ag.cat,ag,c,aP.same,aF,aC,bP,er];exact cP.cn ks x
   .show i+1<=_;omega
   .omega
 obtain rfl:i=s.1.length:=by omega
 rw[b6];refine aX [(20,ae)] 200 rfl (by simp[ag]) (AK.leaveD rfl rfl ?_)
 refine dO rfl av ?_;refine AK.dA () [] rfl rfl rfl rfl rfl rfl rfl rfl ?_ rfl rfl rfl rfl (λj m=>absurd m (by simp))
 simp[ag.cat,ag,aP.same]
def Lk{f:aW}{args:List D}(ps:List bw)(d:List cC)(n:Nat)(es:Nat->List C)(g:List (Int×Int))(i:g.length=n)(j:aP n es (cH.fn g))
  (a:cK (ι:=Unit) X f args [] (λ_=>.e (.agg [aB 0 ps.length ps.length,aB 1 d.length d.length,aB 2 n n])) (λ_=>[.buf 85 2 ps.length (cP.fn ps),.buf 64 2 d.length (cm.fn d),.buf 90 2 n es])) :
  Ev X f args [] (eH (ps,d,g)) []:=by
 have h:=cK.iY (σ1:=λ_:Unit=>[.buf 85 2 ps.length (cP.fn ps),.buf 64 2 d.length (cm.fn d)]) (E:=90) (k:=2) (n:=λ_=>n) (es:=λ_=>es) a (λ_=>rfl) (λ_=>?_) (λ_=>rfl) (λ_=>gB _)
 have b:=cK.iY (σ1:=λ_:Unit=>[.buf 85 2 ps.length (cP.fn ps)]) (E:=64) (k:=2) (n:=λ_=>d.length) (es:=λ_=>cm.fn d) h (λ_=>rfl) (λ_=>?_) (λ_=>rfl) (λ_=>gB _)
 have c:=cK.iY (σ1:=λ_:Unit=>[]) (E:=85) (k:=2) (n:=λ_=>ps.length) (es:=λ_=>cP.fn ps) b (λ_=>rfl) (λ_=>?_) (λ_=>rfl) (λ_=>bg _)
 refine(c.le (res':=λ_=>eH (ps,d,g)) (λ_=>rfl) (λ_=>?_)).one
 .simp only[ag.cat,ag,aC,aF];exact⟨aP.same,aP.same,i.symm,j⟩
 .simp[ag.cat,ag]
 .simp[ag.cat,ag]
 .simp[ag.cat,ag]
def EC(s:aZ)(l:c6)(a:dF s)(h:l.1=4)(f:0<=l.2.1)(i:l.2.1<s.2.2.length)(b:bu .i64 (3-Ew s l)) :
  cK (ι:=Unit) X 17 [eH s,gf l] [] (λ_=>.e (.agg [aB 0 s.1.length s.1.length,aB 1 s.2.1.length s.2.1.length,aB 2 s.2.2.length s.2.2.length])) (λ_=>[.buf 85 2 s.1.length (cP.fn s.1),.buf 64 2 s.2.1.length (cm.fn s.2.1),.buf 90 2 s.2.2.length (Au s l)]):=by
 refine cK.fY tok Tryz.func17 rfl rfl rfl λd=>?_
 have c:bC X [(15,n3)]:=.cons oF .nil;have g:=a.h;refine aD c [] 100 rfl av ?_;refine AK.cQ (HF s a.p a.p2 a.sn a.s2 a.h) [] rfl ?_;refine aD c [(13,ae),(42,ae),(48,ae),(91,ab),(99,ab)] 100 rfl ?_ ?_
 .have b:bu .i64 (3-(s.2.2.getD (0+l.2.1.toNat) cH.bD).1):=b;simp only[ag,bu,h,ba,aF,aC] at b ⊢
  and_intros <;> first|omega|rfl
 refine AK.dA () [3,4,5] rfl rfl rfl rfl rfl rfl rfl rfl ?_ rfl rfl rfl rfl fN;simp[ag.cat,ag,aP.same]
def HG(s:aZ)(l:c6)(c:dF s)(h:l.1=4)(b:0<=l.2.1)(a:l.2.1<s.2.2.length)(d:bu .i64 (3-Ew s l)) :
  Ev X 17 [eH s,gf l] [] (eH (s.1,s.2.1,s.2.2.set (0+l.2.1.toNat) (3-Ew s l,(s.2.2.getD (0+l.2.1.toNat) cH.bD).2))) [] :=
 Lk s.1 s.2.1 _ _ _ (by simp) (cH.qK s.2.2 (0+l.2.1.toNat) (3-Ew s l,(s.2.2.getD (0+l.2.1.toNat) cH.bD).2) s.2.2.length (bg _)) (EC s l c h b a d)
def ED(s:aZ)(l:c6)(a:dF s)(h:l.1=4)(f:¬(0<=l.2.1/\l.2.1<s.2.2.length)):Ev X 17 [eH s,gf l] [] (eH s) []:=by
 refine Ev.iu tok Tryz.func17 rfl rfl rfl λd=>?_
 have b:bC X [(15,n3)]:=.cons oF .nil;have e:=a.h;refine aD b [] 100 rfl av ?_;refine AK.cQ (fw s a.p a.p2 a.sn a.s2 a.h) [] rfl ?_;refine aD b [(13,ae),(42,ae),(48,ae),(91,ab),(99,ae)] 100 rfl ?_ ?_
 .simp only[ag,bu,h,bJ,aF,aC]
  and_intros <;> first|omega|rfl
 refine AK.dA () [] rfl rfl rfl rfl rfl rfl rfl rfl ?_ rfl rfl rfl rfl (λj c=>absurd c (by simp))
 simp[ag.cat,ag,aP.same]
abbrev R4(s:aZ)(l:c6)(i0 b cap n0:Nat)(a:List ak):List aV:=[HA s,.cells 32 (KW l),.cells 27 [dk,dk,dk],.buf 85 2 s.1.length (jb s.1 i0 (.slice (aa ⟨b,0,af⟩) n0 cap)),.buf 64 2 s.2.1.length (cm.fn s.2.1),.buf 90 2 s.2.2.length (cH.fn s.2.2),.dz (hJ 88 2 (.row b cap) n0 a),.cells 27 [aB 3 s.1.length s.1.length,aB 4 s.2.1.length s.2.1.length,aB 5 s.2.2.length s.2.2.length]]
def EI(s:aZ)(l:c6)(g:dF s)(h:l.1=3)(i0 m:Nat)(d:S9 s l i0 m) :
  cK (ι:={ q:qT×List ak // dZ 2 (s.1.getD i0 (0,[])).2.length (dE.fn (dx (s.1.getD i0 (0,[])).2 m l.2.2.2)) q.2 }) X 17 [eH s,gf l] []
   (λ_=>.e (.agg [aB 0 s.1.length s.1.length,aB 1 s.2.1.length s.2.1.length,aB 2 s.2.2.length s.2.2.length]))
   (λq=>[.buf 85 2 s.1.length (jb s.1 i0 (lB q.1.1 (s.1.getD i0 (0,[])).2.length)),.buf 64 2 s.2.1.length (cm.fn s.2.1),.buf 90 2 s.2.2.length (cH.fn s.2.2),.dz (hJ 88 2 q.1.1 (s.1.getD i0 (0,[])).2.length q.1.2)]):=by
 have u:=d.ml;have F:=g.p2 _ (nn d.i);have E:=g.p;refine cK.fY tok Tryz.func17 rfl rfl rfl λI=>?_
 have a:bC X [(15,n3)]:=.cons oF .nil;refine aD a [] 100 rfl av ?_;refine AK.cP (EH s i0 d.i (by omega) g.p g.p2 g.sn g.s2 g.h) [] rfl (λ_=>rfl) ?_
 rintro⟨⟨bf,w⟩,y⟩;refine AK.Jg (hJ.len (l:=6) rfl) λv=>?_
 obtain⟨b,cap,rfl⟩:=v.2.2.1 (by omega)
 refine aD a [(13,ae),(42,ae),(48,ab)] 100 rfl ?_ ?_
 .simp[ag,h]
 refine AK.bO 8 (λx:Nat×List ak=>x.1<=s.1.length/\(x.1<=i0->x.2=w)/\(i0<x.1->dZ 2 (s.1.getD i0 (0,[])).2.length (dE.fn (dx (s.1.getD i0 (0,[])).2 m l.2.2.2)) x.2)) (λx=>[(3,.e (.one (.ptr 1 0))),(4,.e (.one (.ptr 2 0))),(5,.e (.one (.ptr 7 0))),(8,dI x.1)]) (λx=>R4 s l i0 b cap (s.1.getD i0 (0,[])).2.length x.2) (λx=>s.1.length-x.1) (0,w) rfl ?_ rfl ?_ rfl ⟨by omega,λ_=>rfl,λh=>by omega⟩ ?_
 .simp[ag.cat,ag,aP.same]
 .simp only[ag.cat,ag,aP.same,aC,aF]
  and_intros <;> first|exactλ_ _=>rfl|rfl
 rintro⟨i,f⟩ ⟨hi,n,o⟩;simp only at hi n o;have j:0+(i:Int).toNat=i:=by omega
 by_cases h:i<s.1.length
 .by_cases z:i=i0
  .subst z;obtain rfl:=n (bg _);have r:=d.no;have D:=d.at';generalize G:(s.1.getD i (0,[])).2=xs at *;refine aD a [(54,ab),(1000017,ab)] 100 rfl ?_ ?_
   .simp only[ag,ba,aF,aC];omega
   refine AK.NT (ι:=Unit) eh 17 20 20 (λk=>bo k 16) (λk=>[.e (.one (.ptr 7 0)),.e (.one (aB 3 s.1.length s.1.length)),dI i,.e (.one (.bp 3 (.el s.1.length 2 (0+(i:Int).toNat) 0))),.e (.one (.bp 3 (.el s.1.length 2 (0+(i:Int).toNat) 0))),dI (s.1.getD (0+(i:Int).toNat) (0,[])).1,.e (.one (.ptr 1 1)),dI l.2.1,dB ((s.1.getD (0+(i:Int).toNat) (0,[])).1==l.2.1),dB ab,.e (.one (.ptr 1 2)),dI l.2.2.1,.e (.one (.ptr 7 0)),.e (.one (aB 3 s.1.length s.1.length)),dI i,.e (.one (.bp 3 (.el s.1.length 2 (0+(i:Int).toNat) 0))),.e (.one (.bp 3 (.el s.1.length 2 (0+(i:Int).toNat) 1)))].getD k .any)
    (λ_ k=>[.e (.one (.c (.val (.slice (aa ⟨b,0,af⟩) xs.length cap)))),dI xs.length,dI (xs.length-1)].getD (k-17) .any)
    (λ_=>R4 s l i b cap xs.length f) rfl rfl rfl rfl rfl rfl rfl (λk h=>by have:=c7 h;omega) rfl
    ⟨OA.bM tok a rfl,OA.bM tok a rfl,OA.bM tok a rfl,OA.eval (ds:=[]) tok a rfl (by simp only[ag,aC];omega),OA.bM tok a rfl,OA.eval (ds:=[]) tok a rfl (by simp only[ag,aF,aC];omega),OA.bM tok a rfl,OA.bM tok a rfl,OA.bM tok a rfl,OA.eval (ds:=[(66,ab)]) tok a rfl (by simp only[ag.cat,ag,j,r,dH,aF]),OA.bM tok a rfl,OA.bM tok a rfl,OA.bM tok a rfl,OA.bM tok a rfl,OA.bM tok a rfl,OA.eval (ds:=[]) tok a rfl (by simp only[ag,aC];omega),OA.bM tok a rfl,av,av,av,av,av,av⟩
    (λ_=>⟨OA.bM tok a rfl,OA.bM tok a rfl,OA.bM tok a rfl,OA.eval (ds:=[]) tok a rfl (by simp only[ag,aC];omega),OA.bM tok a rfl,OA.eval (ds:=[]) tok a rfl (by simp only[ag,aF,aC];omega),OA.bM tok a rfl,OA.bM tok a rfl,OA.bM tok a rfl,OA.eval (ds:=[(66,ab)]) tok a rfl (by simp only[ag.cat,ag,j,r,dH,aF]),OA.bM tok a rfl,OA.bM tok a rfl,OA.bM tok a rfl,OA.bM tok a rfl,OA.bM tok a rfl,OA.eval (ds:=[]) tok a rfl (by simp only[ag,aC];omega),OA.bM tok a rfl,av,OA.eval (ds:=[]) tok a rfl (by simp only[ag,aC];omega),OA.eval (ds:=[]) tok a rfl (by simp only[ag,bu,aC];omega),av⟩)
    (rU.sZ (OA.mb (vu rfl) (bF.BC tok (e:=.one (.c (.val (.slice (aa ⟨b,0,af⟩) xs.length cap)))) rfl rfl rfl rfl rfl ?_ ?_))) λ_=>?_
   .show aa (E1.one (A.c (Dm s.1 i (.slice (aa ⟨b,0,af⟩) xs.length cap) (0+(i:Int).toNat))))=_;rw[j,Dm,bc rfl]
   .grind
   refine aD a [(78,ab),(1000018,ab)] 100 rfl ?_ ?_
   .simp only[ag,ba,aC];omega
   refine AK.NT (ι:=Unit) eh 5 10 8 (λk=>bo k 4||(bo 6 k&&bo k 9)) (λk=>[.e (.one (.ptr 7 0)),.e (.one (aB 3 s.1.length s.1.length)),dI i,.e (.one (.bp 3 (.el s.1.length 2 (0+(i:Int).toNat) 0))),.e (.one (.bp 3 (.el s.1.length 2 (0+(i:Int).toNat) 1))),.any,.e (.one (.ptr 1 2)),dI l.2.2.1,.e (.one (.ptr 1 3)),.e (.one (.c (.str l.2.2.2)))].getD k .any)
    (λ_ k=>[.e (.one (.c (.val (.slice (aa ⟨b,0,af⟩) xs.length cap))))].getD (k-5) .any)
    (λ_=>R4 s l i b cap xs.length f) rfl rfl rfl rfl rfl rfl rfl (λk h=>by simp at h;omega) rfl
    ⟨OA.bM tok a rfl,OA.bM tok a rfl,OA.bM tok a rfl,OA.eval (ds:=[]) tok a rfl (by simp only[ag,aC];omega),OA.bM tok a rfl,av,OA.bM tok a rfl,OA.bM tok a rfl,OA.bM tok a rfl,OA.bM tok a rfl,av,av,av,av⟩
    (λ_=>⟨OA.bM tok a rfl,OA.bM tok a rfl,OA.bM tok a rfl,OA.eval (ds:=[]) tok a rfl (by simp only[ag,aC];omega),OA.bM tok a rfl,av,OA.bM tok a rfl,OA.bM tok a rfl,OA.bM tok a rfl,OA.bM tok a rfl,av⟩)
    (rU.sZ (OA.mb (vu rfl) (bF.BC tok (e:=.one (.c (.val (.slice (aa ⟨b,0,af⟩) xs.length cap)))) rfl rfl rfl rfl rfl ?_ ?_))) λ_=>?_
   .show aa (E1.one (A.c (Dm s.1 i (.slice (aa ⟨b,0,af⟩) xs.length cap) (0+(i:Int).toNat))))=_;rw[j,Dm,bc rfl]
   .grind
   refine aD a [] 100 rfl ?_ ?_
   .simp only[ag,aC];omega
   have C:f.length=xs.length*2:=y.len;have B:0+l.2.2.1.toNat*2+1=m*2+1:=by omega
   refine AK.DF tok 6 rfl rfl rfl rfl rfl rfl rfl ?_ rfl rfl λvs MS=>?_
   .show 0+l.2.2.1.toNat*2+1+1<=f.length;omega
   have H:=sj y u MS;refine aD a [] 100 rfl ?_ (AK.aQ (i+1,f.take (m*2+1)++vs++f.drop (m*2+1+vs.length)) rfl ?_ ?_ ?_ ?_)
   .simp only[ag,bu,aC];omega
   .simp[ag.cat,ag,aP.same]
   .simp only[ag.cat,ag,aP.same,aC,aF];show hJ 88 2 _ _ (List.take (0+l.2.2.1.toNat*2+1) f++vs++List.drop (0+l.2.2.1.toNat*2+1+vs.length) f)=_;rw[B]
   .grind
   grind
  .have t:=d.ne i h z;refine aD a [(54,ab),(66,ae),(78,ae)] 100 rfl ?_ (AK.aQ (i+1,f) rfl ?_ ?_ ?_ ?_)
   .simp only[ag,bu,j,dm,ba,aF,aC]
    and_intros <;> first|exact t|omega
   .simp[ag.cat,ag,aP.same]
   .simp[ag.cat,ag,aP.same]
   .grind
   grind
 obtain rfl:i=s.1.length:=by omega
 refine aD a [(54,ae)] 100 rfl (by simp[ag]) (AK.leaveD rfl rfl ?_)
 refine aD a [] 100 rfl av ?_;refine AK.dA ⟨(.row b cap,f),o d.i⟩ [3,4,5,6] rfl rfl rfl rfl rfl rfl rfl rfl ?_ rfl rfl rfl rfl fN;simp[ag.cat,ag,aP.same]
def HO{f:aW}{args:List D}(s:aZ)(l:c6)(i0 m:Nat)(hi:i0<s.1.length)
  (a:cK (ι:={ q:qT×List ak // dZ 2 (s.1.getD i0 (0,[])).2.length (dE.fn (dx (s.1.getD i0 (0,[])).2 m l.2.2.2)) q.2 }) X f args []
   (λ_=>.e (.agg [aB 0 s.1.length s.1.length,aB 1 s.2.1.length s.2.1.length,aB 2 s.2.2.length s.2.2.length]))
   (λq=>[.buf 85 2 s.1.length (jb s.1 i0 (lB q.1.1 (s.1.getD i0 (0,[])).2.length)),.buf 64 2 s.2.1.length (cm.fn s.2.1),.buf 90 2 s.2.2.length (cH.fn s.2.2),.dz (hJ 88 2 q.1.1 (s.1.getD i0 (0,[])).2.length q.1.2)])) :
  Ev X f args [] (eH (gK s l i0 m)) []:=by
 generalize u:s.1.getD i0 (0,[])=p at *;have o:∀ j,j≠i0->cP.fn (gK s l i0 m).1 j=cP.fn s.1 j:=λj g=>by
  simp[hU.fn,sH,ai,uR,mf g]
 have i:cP.fn (gK s l i0 m).1 i0=[.int .i64 p.1,.sl ae 2 p.2.length (dE.fn (dx p.2 m l.2.2.2))]:=by
  have:(gK s l i0 m).1.getD i0 cP.bD=(p.1,dx p.2 m l.2.2.2):=by
   grind
  show cP.enc ((gK s l i0 m).1.getD i0 cP.bD)=_;rw[this];show [C.int .i64 p.1,C.sl ae 2 (dx p.2 m l.2.2.2).length (dE.fn (dx p.2 m l.2.2.2))]=_;rw[tY]
 have v:=cK.zP (σ1:=λq:{ q:qT×List ak // dZ 2 p.2.length (dE.fn (dx p.2 m l.2.2.2)) q.2 }=>[.buf 85 2 s.1.length (jb s.1 i0 (lB q.1.1 p.2.length)),.buf 64 2 s.2.1.length (cm.fn s.2.1),.buf 90 2 s.2.2.length (cH.fn s.2.2)]) (σ2:=λ_=>[.buf 85 2 s.1.length (cP.fn (gK s l i0 m).1),.buf 64 2 s.2.1.length (cm.fn s.2.1),.buf 90 2 s.2.2.length (cH.fn s.2.2)]) (E:=88) (k:=2) (n:=p.2.length) (bf:=λq=>q.1.1) (xs:=λq=>q.1.2) a (λq=>q.2) 0 (λ_=>rfl) (λ_=>rfl) (λ_=>rfl) (λ_=>rfl) (λ_=>gB _)
  (λq j g=>by
   by_cases h:j=i0
   .subst h;rw[i];rfl
   .rw[o j h];rfl)
  (λq j g r t d=>by
   by_cases h:j=i0
   .subst h;rw[i] at d;have:jb s.1 j (lB q.1.1 p.2.length) j=[.int .i64 p.1,.val (lB q.1.1 p.2.length)]:=by simp only[jb,Dm,cq,u]
    rw[this];rcases r with _|_|r
    .simp at d;subst d;exact⟨_,rfl,.inl rfl⟩
    .simp at d;subst d;exact⟨_,rfl,.inr ⟨rfl,rfl⟩⟩
    grind
   .rw[o j h] at d;have:jb s.1 i0 (lB q.1.1 p.2.length) j=cP.fn s.1 j:=by simp only[jb,Dm,aY h];rfl
    rw[this];exact⟨t,d,.inl rfl⟩)
 have w:=cK.iY (σ1:=λ_=>[.buf 85 2 s.1.length (cP.fn (gK s l i0 m).1),.buf 64 2 s.2.1.length (cm.fn s.2.1)]) (E:=90) (k:=2) (n:=λ_=>s.2.2.length) (es:=λ_=>cH.fn s.2.2) v (λ_=>rfl) (λ_=>?_) (λ_=>rfl) (λ_=>gB _)
 have b:=cK.iY (σ1:=λ_=>[.buf 85 2 s.1.length (cP.fn (gK s l i0 m).1)]) (E:=64) (k:=2) (n:=λ_=>s.2.1.length) (es:=λ_=>cm.fn s.2.1) w (λ_=>rfl) (λ_=>?_) (λ_=>rfl) (λ_=>gB _)
 have c:=cK.iY (σ1:=λ_=>[]) (E:=85) (k:=2) (n:=λ_=>s.1.length) (es:=λ_=>cP.fn (gK s l i0 m).1) b (λ_=>rfl) (λ_=>?_) (λ_=>rfl) (λ_=>bg _)
 refine(c.le (res':=λ_=>eH (gK s l i0 m)) (λ_=>rfl) (λ_=>?_)).one
 .simp only[ag.cat,ag,aC,aF,pH];exact⟨aP.same,aP.same,aP.same⟩
 .simp[ag.cat,ag]
 .simp[ag.cat,ag]
 .simp[ag.cat,ag]
def HP(s:aZ)(l:c6)(b:dF s)(h:l.1=3)(i0 m:Nat)(a:S9 s l i0 m):Ev X 17 [eH s,gf l] [] (eH (gK s l i0 m)) [] :=
 HO s l i0 m a.i (EI s l b h i0 m a)
def tZ(s:aZ)(l:c6):Prop:=∀ j,j<s.1.length->¬((s.1.getD j (0,[])).1=l.2.1/\0<=l.2.2.1/\l.2.2.1<(s.1.getD j (0,[])).2.length)
def HN(s:aZ)(l:c6)(d:dF s)(m:tZ s l):Ev X 121 [.e (.one (.ptr 5 0)),Ao (th l)] (IX s l) (.eJ []) (IX s l):=by
 have n:=d.p;refine cK.uv (cK.mQ (ι:=Unit) (res:=λ_=>.eJ []) (σ':=λ_=>IX s l) Tryz.func121 rfl rfl rfl (AK.of_code ?_))
 refine bk rfl av ?_;refine AK.bO 6 (λi=>i<=s.1.length) (λi:Nat=>[(0,.e (.one (.ptr 5 0))),(1,Ao (th l)),(8,.e (.one (aB 3 s.1.length s.1.length))),(9,dI s.1.length),(10,dI i)]) (λ_=>IX s l) (λi=>s.1.length-i) 0 rfl ?_ rfl ?_ rfl (by omega) ?_
 .simp[ag.cat,ag,aP.same]
 .simp[ag.cat,ag,aP.same]
 intro i hi
 by_cases h:i<s.1.length
 .have c:=m i h;have k:=d.p2 _ (nn h);have j:0+(i:Int).toNat=i:=by omega
  have b:s.1.getD (0+(i:Int).toNat) cP.bD=s.1.getD i (0,[]):=by rw[j];rfl
  generalize s.1.getD i (0,[])=p at *
  by_cases a:p.1=l.2.1
  .by_cases g:0<=l.2.2.1
   .have f:¬l.2.2.1<p.2.length:=λf=>c ⟨a,g,f⟩
    refine aX [(11,ab),(19,ab),(24,ab),(31,ae)] 100 rfl ?_ (AK.aQ (i+1) rfl ?_ ?_ ?_ ?_)
    .simp only[ag,bu,b,a,dH,ba,bJ,aF,aC];and_intros <;> omega
    .simp[ag.cat,ag,aP.same]
    .simp[ag.cat,ag,aP.same]
    .show i+1<=_;omega
    .omega
   .refine aX [(11,ab),(19,ab),(24,ae),(31,ae)] 100 rfl ?_ (AK.aQ (i+1) rfl ?_ ?_ ?_ ?_)
    .simp only[ag,bu,b,a,dH,ba,bJ,aF,aC];and_intros <;> omega
    .simp[ag.cat,ag,aP.same]
    .simp[ag.cat,ag,aP.same]
    .show i+1<=_;omega
    .omega
  .refine aX [(11,ab),(19,ae),(24,ae),(31,ae)] 100 rfl ?_ (AK.aQ (i+1) rfl ?_ ?_ ?_ ?_)
   .simp only[ag,bu,b,dm,ba,bJ,aF,aC];and_intros <;> first|exact a|omega
   .simp[ag.cat,ag,aP.same]
   .simp[ag.cat,ag,aP.same]
   .show i+1<=_;omega
   .omega
 obtain rfl:i=s.1.length:=by omega
 refine aX [(11,ae)] 100 rfl (by simp[ag]) (AK.leaveD rfl rfl ?_)
 refine bk rfl av ?_;exact⟨(),.inr rfl,rfl,rfl,_,_,_,rfl,rfl,rfl,av⟩
def xS(s:aZ)(l:c6)(a:dF s)(h:l.1=3)(b:tZ s l) :
  cK (ι:=Unit) X 42 [eH s,gf l] [] (λ_=>.e (.agg [aB 0 s.1.length s.1.length,aB 1 s.2.1.length s.2.1.length,.c (Dl s.2.2)])) (λ_=>[.buf 85 2 s.1.length (cP.fn s.1),.buf 64 2 s.2.1.length (cm.fn s.2.1)]):=by
 refine cK.fY tok Tryz.func42 rfl rfl rfl λd=>?_
 refine bk rfl av ?_;refine AK.cQ (iw s a.p a.p2 a.sn a.s2 a.h) [] rfl ?_;refine bk rfl av ?_;refine AK.cQ (wL l h) [] rfl ?_;refine bk rfl av ?_;refine AK.nG (HN s l a b).Bc rfl rfl rfl rfl ?_ rfl ?_
 .simp[ag,ag.cat]
 intro _;refine bk rfl av ?_;refine AK.dA () [3,4] rfl rfl rfl rfl rfl rfl rfl rfl ?_ rfl rfl rfl rfl fN;simp[ag.cat,ag,aP.same]
def AH(s:aZ)(l:c6)(a:dF s)(h:l.1=3)(b:tZ s l):Ev X 42 [eH s,gf l] [] (eH s) []:=Ax (xS s l a h b)
abbrev shV(s:aZ)(l:c6):List aV:=[HA s,.cells 32 (KW l),.cells 27 [dk,dk,dk],.vec 85 2 s.1.length (cP.fn s.1),.vec 64 2 s.2.1.length (cm.fn s.2.1),.vec 90 2 s.2.2.length (cH.fn s.2.2),
 .cells 27 [.vec 3 2 s.1.length (cP.fn s.1),.vec 4 2 s.2.1.length (cm.fn s.2.1),.vec 5 2 s.2.2.length (cH.fn s.2.2)]]
def HQ(s:aZ)(l:c6)(a:dF s)(h:l.1=3)(n:tZ s l):Ev X 17 [eH s,gf l] [] (eH s) []:=by
 refine Ev.iu tok Tryz.func17 rfl rfl rfl λo=>?_
 have b:bC X [(15,n3)]:=.cons oF .nil;have f:=a.p;refine aD b [] 100 rfl av ?_;refine AK.cQ (fw s a.p a.p2 a.sn a.s2 a.h) [] rfl ?_;refine aD b [(13,ae),(42,ae),(48,ab)] 100 rfl ?_ ?_
 .simp[ag,h]
 refine AK.bO 7 (λi=>i<=s.1.length) (λi:Nat=>[(3,.e (.one (.ptr 1 0))),(4,.e (.one (.ptr 2 0))),(5,.e (.one (.ptr 6 0))),(8,dI i)]) (λ_=>shV s l) (λi=>s.1.length-i) 0 rfl ?_ rfl ?_ rfl (by omega) ?_
 .simp[ag.cat,ag]
 .simp[ag.cat,ag,aP.same]
 intro i hi
 by_cases h:i<s.1.length
 .have g:=n i h;have m:=a.p2 _ (nn h);have c:s.1.getD (i:Int).toNat cP.bD=s.1.getD i (0,[]):=by rw[bz];rfl
  generalize s.1.getD i (0,[])=p at *
  by_cases d:p.1=l.2.1
  .refine aD b [(54,ab),(66,ab),(78,ae)] 100 rfl ?_ (AK.aQ (i+1) rfl ?_ ?_ ?_ ?_)
   .simp only[ag,bu,c,d,dH,ba,bJ,aF,aC];and_intros <;> omega
   .simp[ag.cat,ag,aP.same]
   .simp[ag.cat,ag,aP.same]
   .show i+1<=_;omega
   .omega
  .refine aD b [(54,ab),(66,ae),(78,ae)] 100 rfl ?_ (AK.aQ (i+1) rfl ?_ ?_ ?_ ?_)
   .simp only[ag,bu,c,dm,ba,bJ,aF,aC];and_intros <;> first|exact d|omega
   .simp[ag.cat,ag,aP.same]
   .simp[ag.cat,ag,aP.same]
   .show i+1<=_;omega
   .omega
 obtain rfl:i=s.1.length:=by omega
 refine aD b [(54,ae)] 100 rfl (by simp[ag]) (AK.leaveD rfl rfl ?_)
 refine aD b [] 100 rfl av ?_;refine AK.dA () [] rfl rfl rfl rfl rfl rfl rfl rfl ?_ rfl rfl rfl rfl (λj k=>absurd k (by simp))
 simp[ag.cat,ag,aP.same]
structure wY (s:aZ):Prop where
 size:dF s
 U9:s.1.Pairwise λa b=>a.1<b.1
 num:∀ x∈s.2.1,-4000000<=x.1/\x.1<=4000000
 h:∀ x∈s.2.2,1<=x.1/\x.1<=2
def Lu{s:aZ}(b:wY s)(l:c6):(∃ i0 m,S9 s l i0 m)∨tZ s l:=by
 by_cases h:tZ s l
 .exact .inr h
 .refine .inl ?_;simp only[tZ,Classical.not_forall,Classical.not_not] at h;obtain⟨i0,hi,c,n,o⟩:=h;refine⟨i0,l.2.2.1.toNat,hi,c,λj d e i=>?_,by omega,by omega⟩
  have k:s.1.getD i0 (0,[])=s.1[i0]:=by grind
  have g:s.1.getD j (0,[])=s.1[j]:=by grind
  rw[k] at c;rw[g] at i;rcases cG j i0 with a|f
  .have:=kV.1 b.U9 j i0 d hi a;omega
  .have:=kV.1 b.U9 i0 j hi d (by omega)
   omega
structure Va (X:Cx ah)(s:aZ)(l:c6)(s':aZ):Prop where
 z:dF s'
 a:Ev X 42 [eH s,gf l] [] (eH s') []
 b:Ev X 17 [eH s,gf l] [] (eH s') []
end
section
open Go.Proofs
structure TA (s:aZ):Prop extends lx s where
 pa:s.1.Pairwise λp q=>p.1<q.1
 sa:s.2.1.Pairwise λx y=>x.1<y.1
 hb:∀ h∈s.2.2,1<=h.1/\h.1<=2
def TA.nil:TA ([],[],[]):=⟨⟨by simp,by simp,by simp,by simp,by simp,by simp⟩,by simp,by simp,by simp⟩
def TA.xq{s:aZ}(h:TA s):wY s:=⟨h.LX,h.pa,h.OS.s,h.hb⟩
def TA.Zj{s:aZ}(h:TA s):s.2.1.length<=20:=by
 have:=AV 1 h.sa λx a=>(h.a4 x a).1
 omega
def Dc{α:Type}{f:α->Int}{l:List α}(h:l.Pairwise λa b=>f a<f b)(c:l.length≠0)(d:α):∀ x∈l,f x<=f (l.getD (l.length-1) d):=by
 grind [List.getElem_of_mem,List.pairwise_iff_getElem]
def TA.save{k:Int}{s:aZ}{t:List bA}{by_:Int}(h:TA s)(e:dj t=ab)(hb:1<=by_/\by_<=2)(d:jY k s t=ae):TA (nj k s by_ t):=by
 refine⟨h.tolx.save h.Zj e d,?_,?_,λx a=>?_⟩
 .refine List.pairwise_append.2 ⟨h.pa,xe k _ _ _,λx a y b=>?_⟩
  have h1:x.1<ix s:=by
   unfold ix;split
   .grind
   .rename_i c
    have:=Dc (f:=λp:bw=>p.1) h.pa c (0,[]) x a
    omega
  have:=tv k _ _ _ y b;omega
 .refine List.pairwise_append.2 ⟨h.sa,by simp,λx a y b=>?_⟩
  rw[kX] at b;subst b;show x.1<fD s;unfold fD;split
  .grind
  .rename_i c
   have:=Dc (f:=λp:cC=>p.1) h.sa c (0,[]) x a
   omega
 .rcases gA.1 a with a|a
  .exact h.hb x a
  grind
def TA.VA{s:aZ}(h:TA s)(p:cC->Bool):TA (s.1,s.2.1.filter p,s.2.2) :=
 ⟨⟨h.a1,h.a2,eK (j3 _ _) h.a3,λx a=>h.a4 x (mc.1 a).1,h.a5,h.a6⟩,h.pa,h.sa.filter _,h.hb⟩
def TA.step{s:aZ}(h:TA s) (no:Int)(ms:List Int):TA (jq no ms s.1,s.2):=by
 refine⟨⟨?_,λp b=>?_,h.a3,h.a4,h.a5,h.a6⟩,?_,h.sa,h.hb⟩
 .have:(jq no ms s.1).length<=s.1.length:=by unfold jq;grind
  exact eK this h.a1
 .obtain⟨q,a,rfl,_⟩:=EX b;have:=h.a2 q a
  grind [EW,y4]
 .show (jq no ms s.1).Pairwise _;unfold jq;refine List.Pairwise.filter _ (List.pairwise_map.2 (h.pa.imp λc=>?_))
  grind [y4]
structure TW (n:Nat)(w:cM):Prop where
 s:TA w.1
 m:w.2.1.length<=n
 l:w.2.2.length<=20
def TW.mono{n m:Nat}{w:cM}(h:TW n w)(a:n<=m):TW m w:=⟨h.s,eK h.m a,h.l⟩
abbrev M5:cM:=(([],[],[]),[],[])
def TW.nil{n:Nat}:TW n M5:=⟨TA.nil,by simp,by simp⟩
def Da(k:Int)(s:aZ)(a:List Int):cM×Bool :=
 if gF k s=ab then (((s.1,s.2.1.filter λx=>a.contains x.1,s.2.2),fz (s.2.1.filter λx=>a.contains x.1),s.1.map (·.1)),ab) else (M5,ae)
def MM{s:aZ}(h:lx s):(jz s.2.1).length<=240*21:=by
 have c:=h.a3;have b:(jz s.2.1).length<=240*s.2.1.length:=kq λx a=>n7 (h.a4 x a).2
 omega
def TW.beg{k:Int}{s:aZ}{eL:List Int}(h:TA s):TW 6000 (Da k s eL).1:=by
 unfold Da;split
 .have a:=h.VA λx=>eL.contains x.1
  refine⟨a,?_,by simp only[kZ];exact h.a1⟩
  have h1:=qb (s.2.1.filter λx=>eL.contains x.1) _ (bg _)
  have h2:=MM a.tolx
  grind
 .exact TW.nil
def TW.step{n:Nat}{w:cM}(h:TW n w):TW n (AY w):=by
 unfold AY;split
 .exact h
 .rename_i no r hl
  refine⟨h.s.step _ _,h.m,?_⟩;have:=h.l
  grind
def Db(k:Int)(w:cM) (by_:Int)(t:List bA):cM:=(nj k w.1 by_ t,(fh (kn (fD w.1) k t).2).foldl kT w.2.1,w.2.2)
def SL(k:Int)(w:cM) (by_:Int)(t:List bA):Bool:=fA k w&&decide (1<=by_/\by_<=2)&&dj t
def TW.save{k:Int}{n:Nat}{w:cM}{t:List bA}{by_:Int}(h:TW n w)(c:dj t=ab)(hb:1<=by_/\by_<=2)(b:jY k w.1 t=ae):TW (n+240) (Db k w by_ t):=by
 have a:=h.s.save c hb b;refine⟨a,?_,h.l⟩;have h1:=gG w.2.1 (fh (kn (fD w.1) k t).2);have h2:=l8 (kn (fD w.1) k t).2;have d:=n7 (a.a4 (kn (fD w.1) k t) (by simp[nj])).2
 have e:=h.m;show ((fh _).foldl kT w.2.1).length<=_;omega
def TW.smS{n:Nat}{w:cM}(h:TW n w):OR w.1:=h.s.Yl.toOR
def gb(l:List (Int×Int)):Int:=l.foldl (λn h=>64*n+21*h.1+h.2) 0
def iU(m:Int×Int)(l:List (Int×Int)):(Int×Int)×Int :=
 if jy l=ab/\m.1<=l.length/\0<=m.1 then
  if gb (l.take m.1.toNat)=m.2 then (((l.length:Int),gb l),0) else (m,2)
 else (m,1)
def xw{l:List (Int×Int)}(h:∀ x∈l,(1<=x.1/\x.1<=2)/\1<=x.2/\x.2<=20):∀ i,0<=gb (l.take i)/\gb (l.take i)<((64 ^ i:Nat):Int)
 |0=>by simp[gb]
 |i+1=>by
  have a:=xw h i
  by_cases hi:i<l.length
  .have e:gb (l.take (i+1))=64*gb (l.take i)+21*(l.getD i (0,0)).1+(l.getD i (0,0)).2:=by
    unfold gb
    grind [bq]
   grind
  grind [List.take_of_length_le]
def zb{l:List (Int×Int)}(h:jy l=ab):(∀ x∈l,(1<=x.1/\x.1<=2)/\1<=x.2/\x.2<=20)/\l.length<=9:=by
 simp only[jy,bL,ba,cd] at h;refine⟨λx a=>?_,h.2⟩
 have:=(qd (p:=gq) (d:=(0,0))).1 h.1 x a;simpa only[gq,bL,ba] using this
def sE{l:List (Int×Int)}(h:∀ x∈l,(1<=x.1/\x.1<=2)/\1<=x.2/\x.2<=20)(c:l.length<=9)(i:Nat):0<=gb (l.take i)/\gb (l.take i)<18014398509481984:=by
 rcases Nat.le_total i 9 with a|a
 .have b:=xw h i;have:64 ^ i<=64 ^ 9:=zl (by omega) a
  grind
 .rw[uL (by omega)]
  have b:=xw h l.length;rw[b6] at b;have:64 ^ l.length<=64 ^ 9:=zl (by omega) c
  grind
end
section
open Go.Proofs
variable {X:Cx ah}
abbrev Vy(s:aZ)(a:List cC)(l:List Int):List aV:=[HA s,.cells 30 SJ,.cells 30 [qP cP s.1,.vec 4 2 a.length (cm.fn a),qP cH s.2.2,dk,.vec 5 1 l.length (cI.fn l)],HA s,.vec 64 2 a.length (cm.fn a),.vec 3 1 l.length (cI.fn l)]
def map_take{α a:Type}{l:List α}{f:α->a}{i:Nat}(h:i<l.length)(d:α):(l.take (i+1)).map f=(l.take i).map f++[f (l.getD i d)]:=by
 rw[bq h d,rh];rfl
def A9(l:List cC)(q:cC->Bool):(jz (l.filter q)).length<=(jz l).length:=by
 induction l with
 |nil=>simp
 |cons x l a =>
  unfold jz at *
  grind
def ID(k:Int)(s:aZ)(b:List Int)(g:dF s)(n:OR s):Ev X 56 [dI k,eH s,cI.sl b] [] (Td (Da k s b).1 (Da k s b).2) []:=by
 refine Ev.fY Tryz.func56 rfl rfl rfl λy=>?_
 have d:bC X [(48,tq),(38,A5),(47,Cz),(46,xb)]:=.cons yS (.cons Gv (.cons Gk (.cons CI .nil)));have z:=g.p;have v:=g.sn;unfold Da;cases r:gF k s with
 |false =>
  refine aD d [(15,ab)] 200 rfl ?_ ?_
  .simp only[ag,cP.list_fn,cP.aH,cm.list_fn,cm.aH,cH.list_fn,cH.aH,r,g.p,g.sn,aF,aC,ia];exact n.sm
  refine AK.freeze 6 1 rfl rfl rfl ?_;refine AK.iQ tok [] rfl ?_ rfl rfl rfl fN;simp[ag.cat,ag,aP.nil]
 |true =>
 rw[bc rfl];refine aD d [(15,ae),(1000006,ab)] 200 rfl ?_ ?_
 .simp only[ag,cP.list_fn,cP.aH,cm.list_fn,cm.aH,cH.list_fn,cH.aH,r,g.p,g.sn,g,aF,aC,dv];exact n.sm
 refine AK.gj 2 1 64 2 (cm.fn []) rfl rfl ?_;refine AK.gj 2 4 3 1 (cI.fn []) rfl rfl ?_;refine aD d [] 200 rfl av ?_;refine AK.bO 6 (λi=>i<=s.2.1.length) (λi:Nat=>[(2,cI.sl b),(4,.e (.one (.ptr 0 0))),(6,.e (.one (.ptr 1 0))),(8,.e (.one (.ptr 2 0))),(9,.e (.one (.ptr 3 0))),(10,dI i)])
  (λi=>Vy s ((s.2.1.take i).filter λx=>b.contains x.1) []) (λi=>s.2.1.length-i) 0 rfl ?_ rfl ?_ rfl (by omega) ?_
 .simp[ag.cat,ag,aP.same]
 .simp[ag.cat,ag,aP.same,aP.nil,cP.list_fn,cm.list_fn,cH.list_fn]
 .intro i hi;have q:=filter_le s.2.1 (λx=>b.contains x.1) hi
  by_cases h:i<s.2.1.length
  .have j:s.2.1.getD i cm.bD=s.2.1.getD i (0,[]):=rfl;have c:(s.2.1.take (i+1)).filter (λx=>b.contains x.1)=if b.contains (s.2.1.getD i (0,[])).1=ab then (s.2.1.take i).filter (λx=>b.contains x.1)++[s.2.1.getD i (0,[])] else (s.2.1.take i).filter (λx=>b.contains x.1):=xp h (0,[])
   generalize (s.2.1.take i).filter (λx=>b.contains x.1)=a at *
   generalize s.2.1.getD i (0,[])=x at *;cases m:b.contains x.1 with
   |true =>
    rw[bc m] at c;have l:=cm.cn a x;refine aD d [(30,ab),(40,ab)] 200 rfl ?_ (AK.aQ (i+1) rfl (by simp[ag.cat,ag,aP.same]) ?_ h (by omega))
    .simp[-ai,-List.contains_eq_mem,ag,j,h,m,cI.list_fn,cI.aH,bu,show i64.bytes=32 from rfl];omega
    .rw[c];simp only[ag.cat,ag,bz,j,bP,er,aF,aC]
     and_intros <;> first|exact aP.same|exact l|rfl|omega
   |false =>
    rw[aY (by rw[m];simp)] at c
    refine aD d [(30,ab),(40,ae)] 200 rfl ?_ (AK.aQ (i+1) rfl (by simp[ag.cat,ag,aP.same]) ?_ h (by omega))
    .simp[-ai,-List.contains_eq_mem,ag,j,h,m,cI.list_fn,cI.aH,bu];omega
    .rw[c];simp[ag.cat,ag,aP.same]
  obtain rfl:i=s.2.1.length:=by omega
  rw[b6] at q ⊢;have u:=A9 s.2.1 λx=>b.contains x.1
  have o:iS (s.1,s.2.1.filter (λx=>b.contains x.1),s.2.2):=λx l=>g.s2 x (mc.1 l).1
  have t:=n.aN;generalize s.2.1.filter (λx=>b.contains x.1)=sn at *
  refine aD d [(30,ae)] 200 rfl (by simp[ag]) (AK.leaveD rfl rfl ?_)
  refine aD d [] 200 rfl av ?_;refine AK.bO 6 (λi=>i<=s.1.length) (λi:Nat=>[(2,cI.sl b),(4,.e (.one (.ptr 0 0))),(6,.e (.one (.ptr 1 0))),(8,.e (.one (.ptr 2 0))),(11,dI i)])
   (λi=>Vy s sn ((s.1.take i).map (·.1))) (λi=>s.1.length-i) 0 rfl (by simp[ag.cat,ag,aP.same]) rfl (by simp[ag.cat,ag,aP.same,aP.nil]) rfl (by omega) ?_
  intro i hi;have w:((s.1.take i).map (·.1)).length=i:=by simp;omega
  by_cases h:i<s.1.length
  .have j:s.1.getD i cP.bD=s.1.getD i (0,[]):=rfl;have c:=map_take (f:=λp:bw=>p.1) h (0,[])
   generalize (s.1.take i).map (λp:bw=>p.1)=a at *
   generalize s.1.getD i (0,[])=p at *;have l:=cI.cn a p.1;refine aD d [(57,ab)] 200 rfl ?_ (AK.aQ (i+1) rfl (by simp[ag.cat,ag,aP.same]) ?_ h (by omega))
   .simp[-ai,ag,j,h,bu,show i3.bytes=8 from rfl];omega
   .rw[c];simp only[ag.cat,ag,bz,j,bP,er,aF,aC]
    and_intros <;> first|exact aP.same|exact l|rfl|omega
  obtain rfl:i=s.1.length:=by omega
  rw[b6];refine aD d [(57,ae)] 200 rfl (by simp[ag]) (AK.leaveD rfl rfl ?_)
  refine aD d [] 200 rfl ?_ ?_
  .simp only[ag,cP.list_fn,cP.aH,cm.list_fn,cm.aH,cH.list_fn,cH.aH,aF,aC];exact⟨o,by omega,by omega⟩
  refine AK.freeze 8 2 rfl rfl rfl ?_;refine AK.freeze 6 1 rfl rfl rfl ?_;refine AK.iQ tok [] rfl ?_ rfl rfl rfl fN;simp[ag.cat,ag,aP.same,cm.list_fn]
abbrev Gx:dh:=Dk aI Oe (aL cI) (λk s a=>Td (Da k s a).1 (Da k s a).2) λ_ s _=>[dF s,OR s]
def Pg:dG X 56 Gx:=.IW λk s a h=>ID k s a h.1 h.2
def Fb(l:c6)(p:bw):bw:=if p.1=l.2.1/\0<=l.2.2.1/\l.2.2.1<p.2.length then (p.1,dx p.2 l.2.2.1.toNat l.2.2.2) else p
def tF(s:aZ)(l:c6):aZ :=
 if l.1=1 then (s.1.filter λx=>!(x.1==l.2.1),s.2.1,s.2.2)
 else if l.1=2 then (if l.2.1<0∨l.2.1>s.2.2.length then s else (s.1,s.2.1.filter λx=>!gT l.2.1.toNat s.2.2 x,s.2.2.take l.2.1.toNat))
 else if l.1=3 then (s.1.map (Fb l),s.2)
 else if l.1=4 then (if 0<=l.2.1/\l.2.1<s.2.2.length then (s.1,s.2.1,s.2.2.set l.2.1.toNat (3-(s.2.2.getD l.2.1.toNat (0,0)).1,(s.2.2.getD l.2.1.toNat (0,0)).2)) else s)
 else s
def GA{s:aZ}{l:c6}(h:tZ s l):s.1.map (Fb l)=s.1:=by
 apply pE (by simp)
 intro i b a;rw[List.getElem_map];have:=h i a;rw[ai,br a,fI] at this;exact aY this
def Dd{s:aZ}{l:c6}{i0 m:Nat}(h:S9 s l i0 m):s.1.map (Fb l)=(gK s l i0 m).1:=by
 have hi:=h.i
 apply iL
 intro j;have e:(gK s l i0 m).1=s.1.set i0 ((s.1.getD i0 (0,[])).1,dx (s.1.getD i0 (0,[])).2 m l.2.2.2):=rfl;rw[e,nz]
 by_cases c:j<s.1.length
 .have b:s.1[j]?=aa (s.1.getD j (0,[])):=by grind
  by_cases a:j=i0
  .subst a;rw[fH c,b];have g:=h.ml;have d:=h.at';simp only[j6,Fb];rw[bc ⟨h.no,by omega,by omega⟩,d,bz]
  .rw[iK (λh=>a h.symm),b]
   simp only[j6,Fb];rw[aY (λf=>h.ne j c a f.1)]
 grind
structure VB (X:Cx ah)(s:aZ)(l:c6)(s':aZ):Prop where
 z:dF s'
 b:Ev X 17 [eH s,gf l] [] (eH s') []
def za{s:aZ}(n:wY s)(l:c6):VB X s l (tF s l):=by
 have a:=n.size;have w:=a.h;unfold tF
 by_cases o:l.1=1
 .rw[bc o];exact⟨⟨eK (j3 _ _) a.p,λp g=>a.p2 p (mc.1 g).1,a.sn,a.s2,a.h⟩,HE s l a o⟩
 rw[aY o]
 by_cases f:l.1=2
 .rw[bc f]
  by_cases c:l.2.1<0∨l.2.1>s.2.2.length
  .rw[bc c];exact⟨a,yI s l s a f (EA s l.2.1 a.h c)⟩
  .rw[aY c];have q:l.2.1=(l.2.1.toNat:Nat):=by omega
   have r:=EB (X:=X) s l.2.1.toNat (by omega) a.sn n.num a.h
   rw[<-q] at r;refine⟨⟨a.p,a.p2,eK (j3 _ _) a.sn,λx v=>a.s2 x (mc.1 v).1,?_⟩,yI s l _ a f r⟩
   simp;omega
 rw[aY f]
 by_cases c:l.1=3
 .rw[bc c];rcases Lu n l with⟨i0,m,d⟩|q
  .have e:(s.1.map (Fb l),s.2)=gK s l i0 m:=by rw[Dd d]
   rw[e];refine⟨⟨by simpa using a.p,λp g=>?_,a.sn,a.s2,a.h⟩,HP s l a c i0 m d⟩
   rcases List.mem_or_eq_of_mem_set g with g|rfl
   .exact a.p2 p g
   .simpa[dx] using a.p2 _ (nn d.i)
  .rw[GA q];exact⟨a,HQ s l a c q⟩
 rw[aY c]
 by_cases j:l.1=4
 .rw[bc j]
  by_cases k:0<=l.2.1/\l.2.1<s.2.2.length
  .rw[bc k];have u:(s.2.2.getD (0+l.2.1.toNat) cH.bD)∈s.2.2:=by
    grind
   have r:=n.h _ u;have t:bu .i64 (3-Ew s l):=by
    show -9223372036854775808<=_/\_<=9223372036854775807;unfold Ew;omega
   have b:=HG (X:=X) s l a j k.1 k.2 t;have e:s.2.2.set (0+l.2.1.toNat) (3-Ew s l,(s.2.2.getD (0+l.2.1.toNat) cH.bD).2)=s.2.2.set l.2.1.toNat (3-(s.2.2.getD l.2.1.toNat (0,0)).1,(s.2.2.getD l.2.1.toNat (0,0)).2):=by
    grind
   rw[e] at b;exact⟨⟨a.p,a.p2,a.sn,a.s2,by simpa using a.h⟩,b⟩
  .rw[aY k];exact⟨a,ED s l a j k⟩
 .rw[aY j];exact⟨a,HD s l a o f c j⟩
def VC{s:aZ}(n:wY s)(l:c6):Ev X 42 [eH s,gf l] [] (eH (tF s l)) []:=by
 have b:=n.size;have r:=b.h;unfold tF
 by_cases j:l.1=1
 .rw[bc j];exact Cj s l b j
 rw[aY j]
 by_cases d:l.1=2
 .rw[bc d]
  by_cases c:l.2.1<0∨l.2.1>s.2.2.length
  .rw[bc c];exact Ax (xQ s l b d c)
  .rw[aY c];have k:l.2.1=(l.2.1.toNat:Nat):=by omega
   exact Ck s l b d l.2.1.toNat k (by omega)
 rw[aY d]
 by_cases c:l.1=3
 .rw[bc c];rcases Lu n l with⟨i0,m,i⟩|k
  .have e:(s.1.map (Fb l),s.2)=gK s l i0 m:=by rw[Dd i]
   rw[e];exact Cq s l b c i0 m i
  .rw[GA k];exact AH s l b c k
 rw[aY c]
 by_cases f:l.1=4
 .rw[bc f]
  by_cases g:0<=l.2.1/\l.2.1<s.2.2.length
  .rw[bc g];have p:(s.2.2.getD (0+l.2.1.toNat) cH.bD)∈s.2.2:=by
    grind
   have q:=n.h _ p;have o:bu .i64 (3-Ew s l):=by
    show -9223372036854775808<=_/\_<=9223372036854775807;unfold Ew;omega
   have a:=Ap (X:=X) s l b f g.1 g.2 o
   grind
  .rw[aY g];exact Aq s l b f g
 .rw[aY f];exact Ax (Aw s l b j d c f)
def IC{s:aZ}(a:wY s)(l:c6):Va X s l (tF s l):=⟨(za (X:=X) a l).z,VC a l,(za a l).b⟩
structure xt (l:List (Int×Int)):Prop where
 h:∀ x∈l,(1<=x.1/\x.1<=2)/\1<=x.2/\x.2<=20
 n:l.length<=9
theorem xt.of{l:List (Int×Int)}(h:jy l=ab):xt l:=⟨(zb h).1,(zb h).2⟩
def xt.take{l:List (Int×Int)}(h:xt l)(i:Nat):xt (l.take i):=⟨λx a=>h.h x (iJ a),by have:=h.n;rw[List.length_take];omega⟩
def zc{l:List (Int×Int)}{i:Nat}(h:i<l.length):gb (l.take (i+1))=64*gb (l.take i)+21*(l.getD i (0,0)).1+(l.getD i (0,0)).2:=by
 unfold gb;rw[bq h (0,0),nD];rfl
def MI(l:List (Int×Int))(a:xt l):Ev X 63 [cH.sl l] [] (dI (gb l)) []:=by
 refine Ev.bQ Tryz.func63 rfl λe=>?_
 have g:=a.n;refine bk rfl av ?_;refine AK.bO 0 (λi=>i<=l.length) (λi:Nat=>[(0,cH.sl l),(3,dI (gb (l.take i))),(4,dI i)]) (λ_=>[]) (λi=>l.length-i) 0 rfl (by simp[ag.cat,ag,aP.same,gb]) rfl av rfl (by omega) ?_
 intro i hi
 by_cases h:i<l.length
 .have b:l.getD i cH.bD=l.getD i (0,0):=rfl;have f:=zc h;have d:=sE a.h a.n i;have c:=sE a.h a.n (i+1);have j:=a.h _ (gN h (0,0));refine aX [(8,ab)] 100 rfl ?_ (AK.aQ (i+1) rfl ?_ av h (by omega))
  .simp only[ag,bz,b,bu,ba,aF,aC];and_intros <;> omega
  .simp only[ag.cat,ag,bz,b,aF,aC]
   and_intros <;> first|exact aP.same|omega
 obtain rfl:i=l.length:=by omega
 rw[b6];refine aX [(8,ae)] 100 rfl (by simp[ag]) (AK.leaveD rfl rfl ?_)
 exact bk rfl av (AK.bm rfl (by simp[ag]))
abbrev MJ:dh:=jX (aL cH) (λl=>dI (gb l)) λl=>[xt l]
def SK:dG X 63 MJ:=.oi λl h=>MI l h
abbrev Be(m:Int×Int):D:=.e (.agg [.c (.int .i64 m.1),.c (.int .i64 m.2)])
abbrev M7(q:(Int×Int)×Int):D:=.eJ [.agg [.c (.int .i64 q.1.1),.c (.int .i64 q.1.2)],.one (.c (.int .i64 q.2))]
def Gy(m:Int×Int)(l:List (Int×Int))(n:l.length<=4000000):Ev X 36 [Be m,cH.sl l] [] (M7 (iU m l)) []:=by
 refine Ev.fY Tryz.func36 rfl rfl rfl λk=>?_
 have b:bC X [(62,lH),(63,MJ)]:=.cons Gl (.cons SK .nil);unfold iU;cases a:jy l with
 |false =>
  rw[aY (by simp)]
  refine aD b [(8,ab),(15,ab),(20,ab)] 200 rfl (by simp[ag,a,cH.list_fn,cH.aH]) ?_
  refine AK.freeze 4 1 rfl rfl rfl ?_;exact AK.iQ tok [] rfl (by simp[ag.cat,ag]) rfl rfl rfl fN
 |true =>
 have c:=xt.of a
 by_cases h:m.1<=l.length
 rotate_left
 .rw[aY (by simp[h])]
  refine aD b [(8,ae),(15,ab),(20,ab)] 200 rfl ?_ ?_
  .simp only[ag,a,cH.list_fn,cH.aH,dv,ba,aF,aC];omega
  refine AK.freeze 4 1 rfl rfl rfl ?_;exact AK.iQ tok [] rfl (by simp[ag.cat,ag]) rfl rfl rfl fN
 by_cases e:0<=m.1
 rotate_left
 .rw[aY (by simp[e])]
  refine aD b [(8,ae),(15,ae),(20,ab)] 200 rfl ?_ ?_
  .simp only[ag,a,cH.list_fn,cH.aH,dv,ba,bJ,aF,aC];omega
  refine AK.freeze 4 1 rfl rfl rfl ?_;exact AK.iQ tok [] rfl (by simp[ag.cat,ag]) rfl rfl rfl fN
 rw[bc ⟨rfl,h,e⟩];have o:(m.1.toNat:Int)=m.1:=q8 e;have g:cH.list (cr l.length (aa m.1)-cr 0 af) (jK (cr 0 af) (cH.fn l))=l.take m.1.toNat:=by
  have j:cr l.length (aa m.1)-cr 0 af=m.1.toNat:=by simp[cr]
  rw[j,cH.yC l (λi hi=>by simp[jK,cr]) (by omega)]
 have f:cH.fits (cr l.length (aa m.1)-cr 0 af) (jK (cr 0 af) (cH.fn l)):=cH.Gd l (λi hi=>by simp[jK,cr])
 by_cases d:gb (l.take m.1.toNat)=m.2
 .rw[bc d];refine aD b [(8,ae),(15,ae),(20,ae),(29,ae)] 200 rfl ?_ ?_
  .simp only[ag,iP,g,f,a,c,c.take,d,cH.list_fn,cH.aH,dv,ba,bJ,kY,aF,aC];omega
  refine AK.freeze 4 1 rfl rfl rfl ?_;exact AK.iQ tok [] rfl (by simp[ag.cat,ag,cH.list_fn]) rfl rfl rfl fN
 .rw[aY d];refine aD b [(8,ae),(15,ae),(20,ae),(29,ab)] 200 rfl ?_ ?_
  .simp only[ag,iP,g,f,a,c,c.take,cH.list_fn,cH.aH,dv,ba,bJ,ic,aF,aC];and_intros <;> first|exact d|omega
  refine AK.freeze 4 1 rfl rfl rfl ?_;exact AK.iQ tok [] rfl (by simp[ag.cat,ag]) rfl rfl rfl fN
def sF(k:Int)(w:cM) (by_:Int)(t:List bA):cM×Bool :=
 if SL k w by_ t=ab then (if jY k w.1 t=ab then (w,ae) else (Db k w by_ t,ab)) else (M5,ae)
structure MG (w:cM):Prop where
 s:dF w.1
 m:OR w.1
 n:w.2.1.length<=4000000
 l:w.2.2.length<=4000000
def TW.sz{n:Nat}{w:cM}(h:TW n w)(hn:n<=1000000):MG w:=⟨h.s.tolx.LX,h.smS,by have:=h.m;omega,by have:=h.l;omega⟩
def x8(k:Int)(w:cM) (by_:Int)(t:List bA)(c:MG w):Ev X 96 [dI k,IY w,dI by_,cF.sl t] [] (Td (sF k w by_ t).1 (sF k w by_ t).2) []:=by
 refine Ev.fY Tryz.func96 rfl rfl rfl λM=>?_
 have b:bC X [(26,tu),(15,n3),(53,Ta),(61,vj),(87,AP),(88,AO)]:=.cons yT (.cons oF (.cons t53 (.cons A6 (.cons Gm (.cons EM .nil)))));have v:=c.m;have a:(w.1,w.2.1,w.2.2)=w:=rfl;have p:sF k w by_ t=if fA k w=ab then (if 1<=by_/\by_<=2 then (if dj t=ab then (if jY k w.1 t=ab then (w,ae) else (Db k w by_ t,ab)) else (M5,ae)) else (M5,ae)) else (M5,ae):=by
  unfold sF SL
  by_cases f:fA k w=ab <;> by_cases o:1<=by_/\by_<=2 <;> by_cases g:dj t=ab <;> simp[f,o,g]
 rw[p];cases f:fA k w with
 |false =>
  rw[aY (by simp)]
  refine aD b [(18,ab),(23,ab),(28,ab)] 200 rfl ?_ ?_
  .simp only[ag,cP.list_fn,cP.aH,cm.list_fn,cm.aH,cH.list_fn,cH.aH,cI.list_fn,cI.aH,a,f,v,ia,aF,aC]
  refine AK.freeze 8 1 rfl rfl rfl ?_;exact AK.iQ tok [] rfl (by simp[ag.cat,ag,aP.nil]) rfl rfl rfl fN
 |true =>
 rw[bc rfl]
 by_cases o:1<=by_/\by_<=2
 rotate_left
 .rw[aY o];refine aD b [(18,ae),(23,ab),(28,ab)] 200 rfl ?_ ?_
  .simp only[ag,cP.list_fn,cP.aH,cm.list_fn,cm.aH,cH.list_fn,cH.aH,cI.list_fn,cI.aH,a,f,v,dv,aF,aC]
   grind
  refine AK.freeze 8 1 rfl rfl rfl ?_;exact AK.iQ tok [] rfl (by simp[ag.cat,ag,aP.nil]) rfl rfl rfl fN
 rw[bc o];cases g:dj t with
 |false =>
  rw[aY (by simp)]
  refine aD b [(18,ae),(23,ae),(28,ab)] 200 rfl ?_ ?_
  .simp only[ag,cP.list_fn,cP.aH,cm.list_fn,cm.aH,cH.list_fn,cH.aH,cI.list_fn,cI.aH,cF.list_fn,cF.aH,a,f,o,g,v,ib,nF,dv,ia,aF,aC]
  refine AK.freeze 8 1 rfl rfl rfl ?_;exact AK.iQ tok [] rfl (by simp[ag.cat,ag,aP.nil]) rfl rfl rfl fN
 |true =>
 rw[bc rfl];have z:=uj.1 f;have A:=z.totz.Vf;have K:=A.OS;have d:=HB (X:=X) k w.1 by_ t z.key c.s K (ui g) A.fE;cases D:jY k w.1 t with
 |true =>
  rw[D,bc rfl] at d;rw[bc rfl];refine aD b [(18,ae),(23,ae),(28,ae)] 200 rfl ?_ ?_
  .simp only[ag,cP.list_fn,cP.aH,cm.list_fn,cm.aH,cH.list_fn,cH.aH,cI.list_fn,cI.aH,cF.list_fn,cF.aH,a,f,o,g,v,ib,nF,dv,ia,aF,aC]
  refine AK.cQ d [] rfl ?_;refine aD b [(42,ab)] 200 rfl ?_ ?_
  .simp only[ag,cP.list_fn,cP.aH,cm.list_fn,cm.aH,cH.list_fn,cH.aH,cI.list_fn,cI.aH,a,c.s,c.n,c.l,dv,ia,aF,aC]
  refine AK.freeze 8 1 rfl rfl rfl ?_;exact AK.iQ tok [] rfl (by simp[ag.cat,ag,aP.same,cP.list_fn,cm.list_fn,cH.list_fn,cI.list_fn]) rfl rfl rfl fN
 |false =>
 rw[D,aY (by simp)] at d
 rw[aY (by simp)]
 refine aD b [(18,ae),(23,ae),(28,ae)] 200 rfl ?_ ?_
 .simp only[ag,cP.list_fn,cP.aH,cm.list_fn,cm.aH,cH.list_fn,cH.aH,cI.list_fn,cI.aH,cF.list_fn,cF.aH,a,f,o,g,v,ib,nF,dv,ia,aF,aC]
 refine AK.cQ d [] rfl ?_;have r:=A.save (k:=k) (t:=t) (by_:=by_) (by have:=AV 1 z.sa λx G=>(z.sn x G).1;omega) g D
 have B:(nj k w.1 by_ t).2.1.length=w.1.2.1.length+1:=by simp[nj]
 have j:(nj k w.1 by_ t).2.1.getD ((nj k w.1 by_ t).2.1.length-1) (0,[])=kn (fD w.1) k t:=by
  rw[B];simp[nj,ai]
 have u:=r.a4 (kn (fD w.1) k t) (by grind)
 have I:=n7 u.2;have H:=l8 (kn (fD w.1) k t).2;have L:=r.a3;have J:=c.n;unfold Db;generalize nj k w.1 by_ t=s' at *;generalize kn (fD w.1) k t=x at *;have q:((s'.2.1.length:Int)-1).toNat=s'.2.1.length-1:=by omega
 have F:s'.2.1.getD ((s'.2.1.length:Int)-1).toNat cm.bD=x:=by rw[q];exact j
 refine aD b [(42,ae)] 200 rfl ?_ ?_
 .simp only[ag,F,cP.list_fn,cP.aH,cm.list_fn,cm.aH,cH.list_fn,cH.aH,cI.list_fn,cI.aH,cL.list_fn,cL.aH,a,c.s,c.n,c.l,bu,dv,ia,aF,aC];have:=u.2.1
  and_intros <;> omega
 rw[F];simp only[cL.list_fn];generalize fh x.2=ns at *;refine AK.bO 4 (λi=>i<=ns.length) (λi:Nat=>[(5,.e (.one (.ptr 0 0))),(8,.e (.one (.ptr 1 0))),(10,.e (.one (.ptr 2 0))),(12,.e (.one (.ptr 3 0))),(13,cI.sl ns),(14,dI i)])
  (λi=>[M4 w,.cells 30 SJ,HA s',M4 (s',(ns.take i).foldl kT w.2.1,w.2.2)]) (λi=>ns.length-i) 0 rfl ?_ rfl ?_ rfl (by omega) ?_
 .simp[ag.cat,ag,aP.same]
 .simp[ag.cat,ag,aP.same,aP.nil,cP.list_fn,cm.list_fn,cH.list_fn,cI.list_fn]
 intro i hi
 by_cases h:i<ns.length
 .have y:ns.getD i cI.bD=ns.getD i 0:=rfl;have C:=tr kT w.2.1 h;have E:=gG w.2.1 (ns.take i);rw[List.length_take] at E;generalize (ns.take i).foldl kT w.2.1=a2 at *;have e:=cI.list_fn a2;refine aD b [(58,ab)] 200 rfl ?_ (AK.aQ (i+1) rfl ?_ ?_ h (by omega))
  .simp[-ai,ag,y,h,e,cI.aH,bu];omega
  .simp[ag.cat,ag,aP.same]
  .rw[C];simp[-ai,ag.cat,ag,y,e,aP.same]
 obtain rfl:i=ns.length:=by omega
 rw[b6];refine aD b [(58,ae)] 200 rfl (by simp[ag]) (AK.leaveD rfl rfl ?_)
 refine aD b [] 200 rfl av ?_;refine AK.freeze 8 1 rfl rfl rfl ?_;exact AK.iQ tok [] rfl (by simp[ag.cat,ag,aP.same]) rfl rfl rfl fN
end
end Go.AM.R1
