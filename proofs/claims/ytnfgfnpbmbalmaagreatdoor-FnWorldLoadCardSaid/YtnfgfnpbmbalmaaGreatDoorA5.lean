/- Part 5. No condition. -/
import Derived.Test.YtnfgfnpbmbalmaaGreatDoorA4
set_option linter.all false
set_option maxHeartbeats 8000000
open Go renaming Value → ak
open Option renaming some → aa
open Go renaming Program → aq
open Go renaming TypeId → ar
open Bool renaming true → ab
open Go renaming Oper → aw
open Go renaming FuncId → aW
open Go renaming execOp → ay
open Go renaming Operand → an
open Option renaming none → af
open Bool renaming false → ae
open Go renaming undef → aj
open List renaming getD_eq_getElem?_getD → ai
open Go renaming World → az
open List renaming range → bh
open Nat renaming beq → aG
open Nat renaming ble → bo
open Go.Op renaming bytesLess → bl
open Go.Proofs.Tryz renaming prog → ah
open List renaming all_eq_true → bu
namespace Go.AM.R1
section
open Go.Proofs
variable {X:Cx ah}
abbrev Yr(x:dm):D:=.e (.agg [.c (.int .i64 x.1),.c (.int .i64 x.2)])
def eO(x:dm)(acc:List dm×Bool)(y:dm):List dm×Bool :=
 if acc.2=ab then (if y.1=x.1 then acc else (acc.1++[y],ab)) else if x.1<=y.1 then (if y.1=x.1 then (acc.1++[x],ab) else (acc.1++[x,y],ab)) else (acc.1++[y],ae)
def qb(x:dm):∀ (l:List dm)(a:List dm),(l.foldl (eO x) (a,ab))=(a++l.filter λz=>!(z.1==x.1),ab)
 |[],a=>by simp
 |y::r,a=>by
  rw[jk]
  by_cases h:y.1=x.1
  .rw[show eO x (a,ab) y=(a,ab) by simp[eO,h],qb x r]
   simp[h]
  .rw[show eO x (a,ab) y=(a++[y],ab) by simp[eO,h],qb x r]
   simp[h]
def yQ(x:dm):∀ (l:List dm)(a:List dm),(if (l.foldl (eO x) (a,ae)).2=ab then (l.foldl (eO x) (a,ae)).1 else (l.foldl (eO x) (a,ae)).1++[x])=a++qk l x
 |[],a=>by simp[qk]
 |y::r,a=>by
  rw[jk]
  by_cases h:x.1<=y.1
  .have c:¬y.1<x.1:=by omega
   by_cases b:y.1=x.1
   .rw[show eO x (a,ae) y=(a++[x],ab) by simp[eO,b],qb]
    simp[qk,b]
   .rw[show eO x (a,ae) y=(a++[x,y],ab) by simp[eO,h,b],qb]
    simp[qk,c,b]
  .have c:y.1<x.1:=by omega
   rw[show eO x (a,ae) y=(a++[y],ae) by simp[eO,h],yQ x r]
   simp[qk,c]
theorem yR(x:dm):∀ (l:List dm)(a:List dm×Bool),(l.foldl (eO x) a).1.length<=a.1.length+l.length+1-(if a.2=ab then 1 else 0)
 |[],a=>by grind
 |y::r,a=>by
  rw[jk];have c:=yR x r (eO x a y);obtain⟨a,b⟩:=a;simp only[fa];cases b with
  |true =>
   by_cases d:y.1=x.1
   .rw[show eO x (a,ab) y=(a,ab) by simp[eO,d]] at c ⊢
    grind
   .rw[show eO x (a,ab) y=(a++[y],ab) by simp[eO,d]] at c ⊢
    grind
  |false =>
   by_cases h:x.1<=y.1
   .by_cases d:y.1=x.1
    .rw[show eO x (a,ae) y=(a++[x],ab) by simp[eO,d]] at c ⊢
     grind
    .rw[show eO x (a,ae) y=(a++[x,y],ab) by simp[eO,h,d]] at c ⊢
     grind
   .rw[show eO x (a,ae) y=(a++[y],ae) by simp[eO,h]] at c ⊢
    grind
abbrev ss(x:dm)(l:List dm)(i:Nat):List dm×Bool:=(l.take i).foldl (eO x) ([],ae)
def HR{x:dm}{l:List dm}{i:Nat}(h:i<l.length):ss x l (i+1)=eO x (ss x l i) (l.getD i (0,0)):=by
 grind [bq]
def Cv(x:dm)(l:List dm)(i:Nat):(ss x l i).1.length<=l.length+1:=by
 grind [yR]
abbrev p4F(l:List dm)(x:dm)(i:Nat)(a:List dm×Bool):Fr:=[(0,oL.sl l),(3,.e (.one (.ptr 0 0))),(5,.e (.one (.vec 1 2 a.1.length (oL.fn a.1)))),(6,dB a.2),(7,dI i)]
abbrev p4B(x:dm)(a:List dm):List aV:=[.cells 250 [.c (.int .i64 x.1),.c (.int .i64 x.2)],.vec 250 2 a.length (oL.fn a)]
def OP(l:List dm)(x:dm)(q:l.length<=4000000):Ev X 202 [oL.sl l,Yr x] [] (oL.sl (qk l x)) []:=by
 refine Ev.bQ Tryz.func202 rfl λp=>?_
 refine aX [(1000002,ab)] 200 rfl av ?_;refine AK.iu 5 250 2 rfl rfl ?_;refine dY rfl av ?_;refine AK.bP 2 (λi=>i<=l.length) (λi:Nat=>p4F l x i (ss x l i)) (λi=>p4B x (ss x l i).1) (λi=>l.length-i) 0 rfl ?_ rfl ?_ rfl (by omega) ?_
 .simp[ag.cat,ag,aP.same,aP.nil,ss]
 .simp[ag.cat,ag,aP.same,aP.nil,ss]
 intro i hi
 by_cases h:i<l.length
 .have n:=HR (x:=x) h;have k:=Cv x l i;have f:l.getD (i:Int).toNat oL.bE=l.getD i (0,0):=by grind
  generalize ss x l i=a at n k;obtain⟨a,b⟩:=a;simp only at k;have j:=oL.cq a (l.getD i (0,0));have m:=oL.cq a x;have d:=oL.pt a x (l.getD i (0,0));cases b with
  |true =>
   by_cases heq:(l.getD i (0,0)).1=x.1
   .have c:ss x l (i+1)=(a,ab):=by rw[n];simp only[eO,cu,bd heq]
    refine aX [(12,ab),(38,ae)] 200 rfl ?_ (AK.aQ (i+1) rfl ?_ ?_ ?_ ?_)
    .simp only[ag,f,bx,show i250.bytes=16 from rfl,ba,bM,jh,rj,fS,dt,jF,cW,heq,fu,nI,eB,dy,kZ,ig,kA,aF,aE];and_intros <;> omega
    .rw[c];simp only[ag.cat,ag,f,aF,aE]
     and_intros <;> first|exact j|exact m|exact d|exactλ_ _=>rfl|rfl|omega|simp
    .rw[c];simp only[ag.cat,ag,f,aF,aE]
     and_intros <;> first|exact j|exact m|exact d|exactλ_ _=>rfl|rfl|omega|simp
    .grind
    .omega
   .have c:ss x l (i+1)=(a++[l.getD i (0,0)],ab):=by rw[n];simp only[eO,cu,aY heq]
    refine aX [(12,ab),(38,ab)] 200 rfl ?_ (AK.aQ (i+1) rfl ?_ ?_ ?_ ?_)
    .simp only[ag,f,bx,show i250.bytes=16 from rfl,ba,bM,jh,rj,fS,dt,jF,cW,heq,fu,nI,eB,dy,kZ,ig,kA,aF,aE];and_intros <;> omega
    .rw[c];simp only[ag.cat,ag,f,aF,aE]
     and_intros <;> first|exact j|exact m|exact d|exactλ_ _=>rfl|rfl|omega|simp
    .rw[c];simp only[ag.cat,ag,f,aF,aE]
     and_intros <;> first|exact j|exact m|exact d|grind|rfl|omega|simp
    .grind
    .omega
  |false =>
   by_cases g:x.1<=(l.getD i (0,0)).1
   .by_cases heq:(l.getD i (0,0)).1=x.1
    .have c:ss x l (i+1)=(a++[x],ab):=by rw[n];simp only[eO,bd g,bd heq];rfl
     refine aX [(12,ab),(25,ab),(38,ae)] 200 rfl ?_ (AK.aQ (i+1) rfl ?_ ?_ ?_ ?_)
     .simp only[ag,f,bx,show i250.bytes=16 from rfl,ba,bM,jh,rj,fS,dt,jF,cW,g,heq,fu,nI,eB,dy,kZ,ig,kA,aF,aE];and_intros <;> omega
     .rw[c];simp only[ag.cat,ag,f,aF,aE]
      and_intros <;> first|exact j|exact m|exact d|exactλ_ _=>rfl|rfl|omega|simp
     .rw[c];simp only[ag.cat,ag,f,aF,aE]
      and_intros <;> first|exact j|exact m|exact d|grind|rfl|omega|simp
     .grind
     .omega
    .have c:ss x l (i+1)=(a++[x,l.getD i (0,0)],ab):=by rw[n];simp only[eO,bd g,aY heq];rfl
     refine aX [(12,ab),(25,ab),(38,ab)] 200 rfl ?_ (AK.aQ (i+1) rfl ?_ ?_ ?_ ?_)
     .simp only[ag,f,bx,show i250.bytes=16 from rfl,ba,bM,jh,rj,fS,dt,jF,cW,g,heq,fu,nI,eB,dy,kZ,ig,kA,aF,aE];and_intros <;> omega
     .rw[c];simp only[ag.cat,ag,f,aF,aE]
      and_intros <;> first|exact j|exact m|exact d|exactλ_ _=>rfl|rfl|omega|simp
     .rw[c];simp only[ag.cat,ag,f,aF,aE]
      and_intros <;> first|exact j|exact m|exact d|grind|rfl|omega|simp
     .grind
     .omega
   .have heq:¬(l.getD i (0,0)).1=x.1:=by omega
    have c:ss x l (i+1)=(a++[l.getD i (0,0)],ae):=by rw[n];simp only[eO,aY g];rfl
    refine aX [(12,ab),(25,ae),(38,ab)] 200 rfl ?_ (AK.aQ (i+1) rfl ?_ ?_ ?_ ?_)
    .simp only[ag,f,bx,show i250.bytes=16 from rfl,ba,bM,jh,rj,fS,dt,jF,cW,g,heq,fu,nI,eB,dy,kZ,ig,kA,aF,aE];and_intros <;> omega
    .rw[c];simp only[ag.cat,ag,f,aF,aE]
     and_intros <;> first|exact j|exact m|exact d|exactλ_ _=>rfl|rfl|omega|simp
    .rw[c];simp only[ag.cat,ag,f,aF,aE]
     and_intros <;> first|exact j|exact m|exact d|grind|rfl|omega|simp
    .grind
    .omega
 .obtain rfl:i=l.length:=by omega
  have e:=yQ x l [];have k:=Cv x l l.length;refine aX [(12,ae)] 200 rfl (by simp[ag]) (AK.leaveD rfl rfl ?_)
  have o:ss x l l.length=l.foldl (eO x) ([],ae):=by grind
  rw[o] at k ⊢;generalize l.foldl (eO x) ([],ae)=a at *;obtain⟨a,b⟩:=a;simp only[List.nil_append] at e k;cases b with
  |true =>
   simp only[cu] at e;subst e;refine dY rfl av (AK.bn rfl ?_);simp[ag,ag.cat,aP.same]
  |false =>
   simp only[jE,cd] at e;have j:=oL.cq a x;refine dY rfl ?_ (AK.bn rfl ?_)
   .simp only[ag,show i250.bytes=16 from rfl,aF,aE];grind
   .rw[<-e];simp only[ag.cat,ag,aF,aE]
    and_intros <;> first|exact j|simp
abbrev Ql:dk:=p9 (aL oL) Tp (λl x=>oL.sl (qk l x)) λl _=>[l.length<=4000000]
def U8:dM X 202 Ql:=.tm λl x h=>OP l x h
abbrev AN(p:bw):List dm:=p.2.map λx=>(x.1,p.1)
def tw(l:List bw)(i j:Nat):List dm:=fG (l.take i)++(AN (l.getD i (0,[]))).take j
def wW{l:List bw}{i:Nat}(h:i<l.length):fG (l.take (i+1))=fG (l.take i)++AN (l.getD i (0,[])):=by
 rw[bq h (0,[])];simp[fG]
def Lv(l:List bw)(i:Nat):(fG (l.take i)).length<=(fG l).length:=by
 have h:fG l=fG (l.take i)++fG (l.drop i):=by
  unfold fG;rw[<-rb,j5]
 rw[h,bR];omega
def Cw{l:List bw}{i j:Nat}(h:i<l.length):∃ r,fG l=tw l i j++r:=by
 have a:fG l=fG (l.take (i+1))++fG (l.drop (i+1)):=by
  unfold fG;rw[<-rb,j5]
 refine⟨(AN (l.getD i (0,[]))).drop j++fG (l.drop (i+1)),?_⟩;rw[a,wW h,tw,j8,j8]
 congr 1
 rw[<-j8,j5]
def Lw(l:List dm)(x:dm):(qk l x).length<=l.length+1:=by
 induction l with
 |nil=>simp[qk]
 |cons y r a =>
  simp only[qk]
  grind
theorem yJ(l:List dm):∀ a:List dm,(l.foldl qk a).length<=a.length+l.length:=by
 induction l with
 |nil=>intro a;simp
 |cons y r b=>intro a;have:=b (qk a y);have:=Lw a y;grind
def ER(l:List bw)(y:l.length<=4000000)(w:(fG l).length<=100000):Ev X 184 [cP.sl l] [] (oL.sl (indexOf l)) []:=by
 refine Ev.bQ Tryz.func184 rfl λx=>?_
 have a:bD X [(201,Lh),(202,Ql)]:=.cons R7 (.cons U8 .nil);refine aC a [] 200 rfl av ?_;refine AK.bP 0 (λi=>i<=l.length/\(fG (l.take i)).all lj=ab) (λi:Nat=>[(0,cP.sl l),(3,oL.sl ((fG (l.take i)).foldl qk [])),(4,dI i)]) (λ_=>[]) (λi=>l.length-i) 0 rfl ?_ rfl ?_ rfl ⟨by omega,rfl⟩ ?_
 .simp[ag.cat,ag,aP.same,aP.nil,fG]
 .simp[ag]
 rintro i ⟨hi,c⟩
 by_cases h:i<l.length
 .have e:l.getD (i:Int).toNat cP.bE=l.getD i (0,[]):=by rw[bA];rfl
  have g:=wW h;refine aC a [(11,ab)] 200 rfl (by simp only[ag,ba];omega) ?_
  refine AK.bP 0 (λj=>j<=(l.getD i (0,[])).2.length/\(tw l i j).all lj=ab) (λj:Nat=>[(0,cP.sl l),(3,oL.sl ((tw l i j).foldl qk [])),(4,dI i),(5,dI j)]) (λ_=>[]) (λj=>(l.getD i (0,[])).2.length-j) 0 rfl ?_ rfl ?_ rfl ⟨by omega,by simpa[tw] using c⟩ ?_
  .simp[ag.cat,ag,aP.same,aP.nil,tw]
  .simp[ag]
  rintro j ⟨v,o⟩;obtain⟨r,p⟩:=Cw (l:=l) (j:=j) h;have k:(tw l i j).length<=100000:=by grind
  have f:=yJ (tw l i j) [];simp only[ib] at f;have u:(l.getD i (0,[])).2.length<=100000:=by
   have:=Lv l (i+1)
   grind
  by_cases s:j<(l.getD i (0,[])).2.length
  .have b:(l.getD i (0,[])).2.getD (j:Int).toNat dK.bE=(l.getD i (0,[])).2.getD j (0,[]):=by rw[bA];rfl
   have m:tw l i (j+1)=tw l i j++[(((l.getD i (0,[])).2.getD j (0,[])).1,(l.getD i (0,[])).1)]:=by
    unfold tw;rw[j8]
    congr 1
    rw[bq (by simpa using s) (0,0)]
    grind
   cases d:lj (((l.getD i (0,[])).2.getD j (0,[])).1,(l.getD i (0,[])).1) with
   |false =>
    have q:indexOf l=[]:=by
     obtain⟨r,p⟩:=Cw (l:=l) (j:=j+1) h;unfold indexOf;rw[aY]
     grind
    refine aC a [(21,ab),(40,ae)] 200 rfl ?_ (AK.eh (b6.zero rfl ?_))
    .simp only[ag,e,b,d,ba,aF,aE];and_intros <;> omega
    .rw[q];simp[ag,ag.cat,aP.nil]
   |true =>
    refine aC a [(21,ab),(40,ab)] 200 rfl ?_ (AK.aQ (j+1) rfl ?_ ?_ ?_ ?_)
    .simp only[ag,e,b,d,bx,oL.list_fn,ba,aF,aE];and_intros <;> first|exact oL.aH _|omega
    .rw[m];simp only[nJ,jk,List.foldl_nil,ag.cat,ag,e,b,oL.list_fn,aF,aE]
     and_intros <;> first|exactλ_ _=>rfl|rfl|omega
    .simp[ag]
    .grind
    .omega
  .have t:j=(l.getD i (0,[])).2.length:=by omega
   have n:tw l i j=fG (l.take (i+1)):=by
    rw[g,tw]
    congr 1
    apply uP
    rw[k6];omega
   refine aC a [(21,ae)] 200 rfl ?_ (AK.leaveD rfl rfl ?_)
   .simp only[ag,e,bM];and_intros <;> omega
   refine aC a [] 200 rfl ?_ (AK.aQ (i+1) rfl ?_ ?_ ?_ ?_)
   .simp only[ag,bx];omega
   .rw[n];simp[ag.cat,ag,aP.same]
   .simp[ag]
   .grind
   .omega
 .obtain rfl:i=l.length:=by omega
  rw[b7] at c ⊢;refine aC a [(11,ae)] 200 rfl (by simp[ag]) (AK.leaveD rfl rfl ?_)
  refine aC a [] 200 rfl av (AK.bn rfl ?_);simp[ag,ag.cat,aP.same,indexOf,c]
abbrev Ls:dk:=jZ (aL cP) (λl=>oL.sl (indexOf l)) λl=>[l.length<=4000000,(fG l).length<=100000]
def Se:dM X 184 Ls:=.ox λl h=>ER l h.1 h.2
abbrev AO:dk:=p9 aI aS (λk p=>dI (hO k p)) λk p=>[ck k=ab,bG p=ab]
abbrev Lx:dk:=jZ aS (λp=>dS (iG p)) λp=>[bG p=ab]
def Qm:dM X 204 Lx:=.ox λp h=>OL p h
def Ly(l:List cC)(x:cC):(sr l x).length=l.length+1:=by
 induction l with
 |nil=>simp[sr]
 |cons y r a=>simp only[sr];split <;> simp[a]
def Sg(k:Int)(ps:List Bs):List cC:=ps.foldl (λl p=>sr l (hO k p,iG p)) []
def Gr(k:Int)(ps:List Bs):(Sg k ps).length=ps.length:=by
 have h:∀ (ps:List Bs) (a:List cC),(ps.foldl (λl p=>sr l (hO k p,iG p)) a).length=a.length+ps.length:=by
  intro ps
  induction ps with
  |nil=>intro a;simp
  |cons p r b=>intro a;rw[jk,b,Ly,fa];omega
 have:=h ps [];rw[ib,bt] at this;exact this
def Lz{k:Int}{ps:List Bs}{i:Nat}(h:i<ps.length):Sg k (ps.take (i+1))=sr (Sg k (ps.take i)) (hO k (ps.getD i []),iG (ps.getD i [])):=by
 unfold Sg;rw[bq h [],nJ];rfl
abbrev pkB(no:Int)(l:List cC):aV:=.cells 85 [.c (.int .i64 no),.c (.sl ae 2 l.length (dK.fn l))]
def Lp(no k:Int)(ps:List Bs)(g:ck k=ab)(m:∀ p∈ps,bG p=ab)(q:ps.length<=4000000):Ev X 185 [dI no,dI k,cS.sl ps] [] (xQ (kT no k ps)) []:=by
 refine Ev.iv tok Tryz.func185 rfl rfl rfl λo=>?_
 have a:bD X [(181,AO),(204,Lx),(203,Qk)]:=.cons AH (.cons Qm (.cons U7 .nil));refine aC a [] 200 rfl av ?_;refine AK.bP 2 (λi=>i<=ps.length) (λi:Nat=>[(1,dI k),(2,cS.sl ps),(6,.e (.one (.ptr 0 0))),(7,.e (.one (.ptr 1 0))),(8,dI i)]) (λi=>[.cells 85 [.c (.int .i64 0),.c (.sl ab 0 0 λ_=>[])],pkB no (Sg k (ps.take i))]) (λi=>ps.length-i) 0 rfl ?_ rfl ?_ rfl (by omega) ?_
 .simp[ag.cat,ag,aP.same]
 .simp[ag.cat,ag,aP.same,aP.nil,Sg]
 intro i hi
 by_cases h:i<ps.length
 .have f:ps.getD (i:Int).toNat cS.bE=ps.getD i []:=by rw[bA];rfl
  have d:bG (ps.getD i [])=ab:=m _ (by rw[ai,br h];exact nG h)
  have n:=Lz (k:=k) h;have b:=Gr k (ps.take i);rw[List.length_take] at b;refine aC a [(15,ab)] 200 rfl ?_ (AK.aQ (i+1) rfl ?_ ?_ ?_ ?_)
  .simp only[ag,f,g,d,bx,dK.list_fn,ba,aF,aE];and_intros <;> first|exact dK.aH _|omega
  .simp[ag.cat,ag,aP.same]
  .rw[n];simp only[ag.cat,ag,f,dK.list_fn,aF,aE]
   and_intros <;> first|exactλ_ _=>rfl|rfl|omega
  .show i+1<=_;omega
  .omega
 .obtain rfl:i=ps.length:=by omega
  rw[b7];refine aC a [(15,ae)] 200 rfl (by simp[ag]) (AK.leaveD rfl rfl ?_)
  refine aC a [] 200 rfl av ?_;refine AK.dE () [] rfl rfl rfl rfl rfl rfl rfl rfl ?_ rfl rfl rfl rfl (λj l=>absurd l (by simp))
  simp[ag,ag.cat,aP.same,kT,Sg]
end
end Go.AM.R1
namespace Go.AM
def Fits.LM{args:List D}{σ:List aV}(h:Fits args σ)(k:Nat){cs:List A}(b:args[k]?=aa (.e (.agg cs)))(j:Nat){t:Bool}{q n:Nat}{es:Nat->List C}(hj:cs[j]?=aa (A.c (.sl t q n es))):n<=9223372036854775807:=by
 obtain⟨s,v,a⟩:=h.at b;obtain⟨vs,_,h2⟩:=a;obtain⟨u,_,d⟩:=dW.get h2 hj;cases d <;> omega
namespace R1
def eb{n i:Nat}{p:Nat->Bool}(hi:i<n)(h:p i=ae):(bh n).all p=ae:=by
 cases a:(bh n).all p with
 |false=>rfl
 |true=>rw[cf.1 a i hi] at h;cases h
def fh{i:Nat}{p:Nat->Bool}(a:∀ j,j<i->p j=ab)(h:p i=ab):∀ j,j<i+1->p j=ab:=λj b=>by
 rcases sS.1 b with b|rfl
 .exact a j b
 .exact h
end R1
end Go.AM
namespace Go.AM.R1
section
open Go.Proofs
variable {X:Cx ah}
def H5(p:Bs):Ev X 225 [dS p] [] (dB (bG p)) []:=by
 refine Ev.bQ Tryz.func225 rfl λb=>?_
 have a:bD X [(15,od),(154,OU)]:=.cons oN (.cons t154 .nil)
 by_cases h:1<=p.length/\p.length<=8
 .refine aC a [(6,ab)] 100 rfl ?_ (AK.bn rfl ?_)
  .simp[ag];omega
  .simp[ag,bG,h.1,h.2]
 .refine aC a [(6,ae)] 100 rfl ?_ (AK.bn rfl ?_)
  .simp[ag];omega
  .have:bG p=ae:=by simp only[bG,<-Bool.decide_and,eC h,pK]
   simp[ag,this]
abbrev Gt:dk:=jZ aS (λp=>dB (bG p)) λ_=>[]
def OV:dM X 225 Gt:=.ox λp _=>H5 p
def H6(p:Bs):Ev X 197 [dS p] [] (dS (iG p)) []:=by
 refine Ev.bQ Tryz.func197 rfl λb=>?_
 have a:bD X [(225,Gt),(204,Lx)]:=.cons OV (.cons Qm .nil);cases h:bG p with
 |true=>exact aC a [(5,ae)] 100 rfl (by simp[ag,h]) (AK.bn rfl (by simp[ag]))
 |false=>exact aC a [(5,ab)] 100 rfl (by simp[ag,h]) (AK.bn rfl (by simp[ag,iG,h]))
abbrev Gu:dk:=jZ aS (λp=>dS (iG p)) λ_=>[]
def OW:dM X 197 Gu:=.ox λp _=>H6 p
def H7(p:Bs):(iG p).length<=8:=by
 unfold iG;split
 .rename_i h
  simp only[bG,bL,ba] at h
  grind [wP]
 .simp
def CG(b:Bs):Ev X 180 [dS b] [] (An (eU b)) []:=by
 refine Ev.bQ Tryz.func180 rfl λr=>?_
 have q:=r.str 0 rfl;have k:bD X [(197,Gu)]:=.cons OW .nil;refine bk rfl av ?_;have fin:∀ n,n<=b.length->strip (b.take n)=strip b->(n=0∨strip (b.take n)=b.take n)->b.take n=strip b:=λn a h f=>by
  rcases f with rfl|f
  .simpa[strip] using h
  grind
 have rest:∀ n,n<=b.length->b.take n=strip b->eU b=if b.length<=8/\iG (strip b)=b/\n≠0 then aa (b.take n) else af:=λn a h=>by
  have t:=H7 (strip b);have m:n=0↔strip b=[]:=by
   grind [List.take_eq_nil_iff]
  unfold eU;rw[h]
  by_cases g:iG (strip b)=b
  .by_cases l:bG (strip b)=ab
   .have:n≠0:=λp=>by rw[m.1 p] at l;cases l
    grind
   .have p:n=0:=m.2 (by rw[iG,aY l] at g;grind)
    grind
  grind
 refine AK.kQ (S2:=Nat) 0 rfl rfl (λn=>n<=b.length/\b.take n=strip b) (λn=>[(0,dS b),(4,dI n)]) (λ_=>[]) 0 (λn=>n<=b.length/\strip (b.take n)=strip b) (λn:Nat=>[(0,dS b),(4,dI n)]) (λ_=>[]) (λn=>n) b.length rfl (by simp[ag.cat,ag]) rfl av rfl ⟨by omega,by simp⟩ ?_ ?_
 .rintro out n ⟨a,c⟩;rcases n with _|n
  .refine aX [(9,ae),(15,ae)] 100 rfl (by simp[ag]) (AK.leaveD rfl rfl ?_)
   exact out 0 ⟨a,fin 0 a c (.inl rfl)⟩ rfl (by simp[ag.cat,ag]) rfl av
  have m:=wD (s:=b) (n:=n) (by omega)
  have d:((n:Int)+1-1).toNat=n:=by omega
  by_cases f:b.getD n 0=46
  .refine aX [(9,ab),(15,ab)] 100 rfl ?_ (AK.aQ n rfl ?_ av ⟨by omega,?_⟩ (by omega))
   .have g:cB b n=46:=by unfold cB;rw[f];rfl
    simp[-ai,ag,cA,d,g,bx];omega
   .simp[ag.cat,ag]
   grind
  .refine aX [(9,ab),(15,ae)] 100 rfl ?_ (AK.leaveD rfl rfl ?_)
   .have g:cB b n≠46:=by
     unfold cB;intro e;exact f (nK.1 (by grind))
    simp[-ai,ag,cA,d,g,bx];omega
   .exact out (n+1) ⟨a,fin _ a c (.inr (by grind))⟩ rfl (by simp[ag.cat,ag]) rfl av
 rintro n ⟨a,o⟩;have j:=rest n a o;have i:rT b af (aa (n:Int))=strip b:=o▸rfl;have hi:((b.length:Int)<=8)↔b.length<=8:=by omega
 by_cases c1:b.length<=8
 .by_cases c2:iG (strip b)=b
  .by_cases c3:n=0
   .refine aC k [(21,ae),(29,ae),(32,ab)] 100 rfl ?_ (AK.bn rfl ?_)
    .subst c3;simp only[ag,i,c2];grind
    .simp[ag,ag.cat,j,c3]
   .refine aC k [(21,ae),(29,ae),(32,ae)] 100 rfl ?_ (AK.bn rfl ?_)
    .simp[ag,i,hi,c1,c2,c3,a]
    .simp[ag,ag.cat,j,i,o,c1,c2,c3]
  .refine aC k [(21,ae),(29,ab),(32,ab)] 100 rfl ?_ (AK.bn rfl ?_)
   .simp[ag,i,hi,c1,c2,a]
   .simp[ag,ag.cat,j,c2]
 .refine aC k [(21,ab),(29,ab),(32,ab)] 100 rfl ?_ (AK.bn rfl ?_)
  .simp[ag];omega
  .simp[ag,ag.cat,j,c1]
abbrev tB:dk:=jZ aS (λb=>An (eU b)) λ_=>[]
def yV:dM X 180 tB:=.ox λb _=>CG b
def H8(k:Int)(x:cC)(c:ck k=ab):Ev X 152 [dI k,X5 x] [] (dB (right k x)) []:=by
 refine Ev.bQ Tryz.func152 rfl λd=>?_
 have b:bD X [(180,tB),(181,AO)]:=.cons yV (.cons AH .nil);cases a:eU x.2 with
 |none=>exact aC b [(14,ae)] 100 rfl (by simp[ag,a]) (AK.bn rfl (by simp[ag,right,a]))
 |some p=>exact aC b [(14,ab)] 100 rfl (by simp[ag,a,c,wG a]) (AK.bn rfl (by simp[ag,right,a]))
abbrev AR:dk:=p9 aI To (λk x=>dB (right k x)) λk _=>[ck k=ab]
def Gv:dM X 152 AR:=.tm λk x h=>H8 k x h
def OX(k:Int):Ev X 35 [dI k] [] (dB (ck k)) []:=by
 refine Ev.bQ Tryz.func35 rfl λb=>?_
 have a:bD X [(15,od)]:=.cons oN .nil;exact aC a [] 100 rfl av (AK.bn rfl (by simp[ag,ck]))
abbrev ui:dk:=jZ aI (λk=>dB (ck k)) λ_=>[]
def xa:dM X 35 ui:=.ox λk _=>OX k
abbrev OY(p:bw):aV:=.cells 85 [.c (.int .i64 p.1),.c (sP p)]
def CH(k:Int)(p:bw) (n:Int):Ev X 158 [dI k,xQ p,dI n] [] (An (dA k p n)) []:=by
 refine Ev.bQ Tryz.func158 rfl λo=>?_
 have b:bD X [(35,ui),(152,AR),(180,tB)]:=.cons xa (.cons Gv (.cons yV .nil));cases d:ck k with
 |false =>
  refine aC b [(11,ab)] 100 rfl (by simp[ag,d]) (AK.bn rfl ?_)
  have:dA k p n=af:=by
   unfold dA chunk
   grind
  simp[ag,ag.cat,this]
 |true =>
 have m:=o.LM 1 rfl 1 rfl;refine aC b [(11,ae)] 100 rfl (by simp[ag,d]) ?_
 refine AK.bP 1 (λi=>i<=p.2.length/\p.2.find? (λx=>x.1==n)=(p.2.drop i).find? (λx=>x.1==n)) (λi:Nat=>[(0,dI k),(4,.e (.one (.ptr 0 0))),(2,dI n),(8,dI i)]) (λ_=>[OY p]) (λi=>p.2.length-i) 0 rfl (by simp[ag.cat,ag]) rfl (by simp[ag.cat,ag,aP.same]) rfl ⟨by omega,rfl⟩ ?_
 rintro i ⟨hi,a⟩
 by_cases h:i<p.2.length
 .have j:p.2.getD i dK.bE=fX p i:=rfl;have l:p.2.drop i=fX p i::p.2.drop (i+1):=by grind [List.drop_eq_getElem_cons]
  rw[l,List.find?_cons] at a
  by_cases f:(fX p i).1=n
  .rw[show ((fX p i).1==n)=ab by grind] at a
   cases g:right k (fX p i) with
   |false =>
    have c:right k (n,(fX p i).2)=ae:=f▸g;refine aC b [(16,ab),(26,ab),(34,ab)] 100 rfl ?_ (AK.eh (b6.zero rfl ?_))
    .simp[-ai,ag,j,f,c,d,h]
    .have e:dA k p n=af:=by
      have:=qK (k:=k) (x:=fX p i) d;rw[g] at this;simp only[dA,a];simpa using this
     simp[ag,ag.cat,e]
   |true =>
    have c:right k (n,(fX p i).2)=ab:=f▸g;refine aC b [(16,ab),(26,ab),(34,ae)] 100 rfl ?_ (AK.eh (b6.zero rfl ?_))
    .simp[-ai,ag,j,f,c,d,h]
    .have e:dA k p n=eU (fX p i).2:=by
      simp only[dA,a,chunk];unfold right at g
      grind
     simp[-ai,ag,ag.cat,e,j]
  .rw[show ((fX p i).1==n)=ae by grind] at a
   refine aC b [(16,ab),(26,ae)] 100 rfl ?_ (AK.aQ (i+1) rfl (by simp[ag.cat,ag]) (by simp[ag.cat,ag,aP.same]) ⟨h,a⟩ (by omega))
   simp[-ai,ag,j,f,bx,h];omega
 .obtain rfl:i=p.2.length:=by omega
  refine aC b [(16,ae)] 100 rfl (by simp[ag]) (AK.leaveD rfl rfl ?_)
  refine aC b [] 100 rfl av (AK.bn rfl ?_);simp[ag,ag.cat,dA,a]
abbrev Gw:dk:=Dw aI (Ho dK) aI (λk p n=>An (dA k p n)) λ_ _ _=>[]
def OZ:dM X 158 Gw:=.I8 λk p n _=>CH k p n
theorem px(k:Int)(p:bw):jm k p=(decide (1<=p.1/\p.1<=99)&&ck k&&decide (1<=p.2.length/\p.2.length<=4)&&(bh p.2.length).all (iH k p)):=by
 grind [tq]
def H9{k:Int}{p:bw}{i:Nat}(a:i≠0):iH k p i=(right k (fX p i)&&decide ((fX p (i-1)).1<(fX p i).1)):=by
 unfold iH
 grind
def EW(k:Int)(p:bw):Ev X 89 [dI k,xQ p] [] (dB (jm k p)) []:=by
 refine Ev.bQ Tryz.func89 rfl λn=>?_
 have b:bD X [(15,od),(35,ui),(152,AR)]:=.cons oN (.cons xa (.cons Gv .nil));have m:=n.LM 1 rfl 1 rfl;rw[px]
 by_cases c1:1<=p.1/\p.1<=99
 rotate_left
 .exact aC b [(10,ab),(14,ab),(21,ab)] 100 rfl (by simp[ag];omega) (AK.bn rfl (by simp[ag,eC c1]))
 cases c:ck k
 .exact aC b [(10,ae),(14,ab),(21,ab)] 100 rfl (by simp[ag,c,c1]) (AK.bn rfl (by simp[ag]))
 by_cases c3:1<=p.2.length/\p.2.length<=4
 rotate_left
 .exact aC b [(10,ae),(14,ae),(21,ab)] 100 rfl (by simp[ag,c,c1];omega) (AK.bn rfl (by simp[ag,eC c3]))
 refine aC b [(10,ae),(14,ae),(21,ae)] 100 rfl (by simp[ag,c,c1];omega) ?_
 rw[cn c1,cn c3,dN,dN,dN];refine AK.bP 1 (λi=>i<=p.2.length/\∀ j,j<i->iH k p j=ab) (λi:Nat=>[(0,dI k),(3,.e (.one (.ptr 0 0))),(5,dI i)]) (λ_=>[OY p]) (λi=>p.2.length-i) 0 rfl (by simp[ag.cat,ag]) rfl (by simp[ag.cat,ag,aP.same]) rfl ⟨by omega,by omega⟩ ?_
 rintro i ⟨hi,a⟩
 by_cases h:i<p.2.length
 .have g:p.2.getD i dK.bE=fX p i:=rfl;cases d:right k (fX p i) with
  |false =>
   refine aC b [(26,ab),(37,ab),(56,ab)] 100 rfl ?_ (AK.eh (b6.zero rfl ?_))
   .simp[-ai,ag,g,d,c,h]
   .rw[eb h (by simp only[iH,d,pK])];simp[ag]
  |true =>
   by_cases l:i=0
   .subst l;refine aC b [(26,ab),(37,ae),(40,ae),(56,ae)] 100 rfl ?_ (AK.aQ 1 rfl (by simp[ag.cat,ag]) (by simp[ag.cat,ag,aP.same]) ⟨h,fh a (by simp only[iH,d,dN];rfl)⟩ (by omega))
    simp[-ai,ag,g,d,c,h,bx]
   have f:p.2.getD (i-1) dK.bE=fX p (i-1):=rfl;have q:=H9 (k:=k) (p:=p) l
   by_cases o:(fX p (i-1)).1<(fX p i).1
   .refine aC b [(26,ab),(37,ae),(40,ab),(54,ae),(56,ae)] 100 rfl ?_ (AK.aQ (i+1) rfl (by simp[ag.cat,ag]) (by simp[ag.cat,ag,aP.same]) ⟨h,fh a (by grind)⟩ (by omega))
    simp[-ai,ag,g,f,d,c,h,o,bx];omega
   .refine aC b [(26,ab),(37,ae),(40,ab),(54,ab),(56,ab)] 100 rfl ?_ (AK.eh (b6.zero rfl ?_))
    .simp[-ai,ag,g,f,d,c,h,bx];omega
    .rw[eb h (by grind)];simp[ag]
 .obtain rfl:i=p.2.length:=by omega
  refine aC b [(26,ae)] 100 rfl (by simp[ag]) (AK.leaveD rfl rfl ?_)
  exact aC b [] 100 rfl av (AK.bn rfl (by simp[ag,cf.2 a]))
abbrev CI:dk:=p9 aI (Ho dK) (λk p=>dB (jm k p)) λ_ _=>[]
def LN:dM X 89 CI:=.tm λk p _=>EW k p
def iE{α:Type}{l:List α}{i:Nat}{d:α}(h:i<l.length):l.getD i d∈l:=by
 grind
def O0{l:List Int}{n:Int}:l.contains n=!(bh l.length).all λi=>!(l.getD i 0==n):=by
 rw[mg,jh,<-mf,cf,zp]
 grind [List.mem_iff_getElem]
def O1(l:List Int) (n:Int):Ev X 47 [cI.sl l,dI n] [] (dB (l.contains n)) []:=by
 refine Ev.bQ Tryz.func47 rfl λe=>?_
 have d:=e.sl 0 rfl;refine bk rfl av ?_;rw[O0];refine AK.jP (λi=>i<=l.length/\∀ j,j<i->(!(l.getD j 0==n))=ab) (λi:Nat=>[(0,cI.sl l),(1,dI n),(5,dI i)]) (λ_=>[]) (λi=>l.length-i) 0 rfl (by simp[ag.cat,ag,aP.same]) rfl av ⟨by omega,by omega⟩ ?_
 rintro i ⟨hi,a⟩
 by_cases h:i<l.length
 .have c:l.getD i cI.bE=l.getD i 0:=rfl
  by_cases b:l.getD i 0=n
  .refine aX [(9,ab),(17,ab)] 100 rfl ?_ (AK.gK (b6.zero rfl ?_))
   .simp[-ai,ag,c,b,h]
   .rw[eb h (by grind)];simp[ag]
  .refine aX [(9,ab),(17,ae)] 100 rfl ?_ (AK.fW (i+1) rfl (by simp[ag.cat,ag,aP.same]) rfl av ⟨h,fh a (by grind)⟩ (by omega))
   simp[-ai,ag,c,b,h,bx];omega
 .obtain rfl:i=l.length:=by omega
  refine aX [(9,ae)] 100 rfl (by simp[ag]) (AK.leave rfl rfl ?_)
  exact bk rfl av (AK.bn rfl (by rw[cf.2 a];simp[ag]))
abbrev CJ:dk:=p9 (aL cI) aI (λl n=>dB (l.contains n)) λ_ _=>[]
def Gx:dM X 47 CJ:=.tm λl n _=>O1 l n
def EX(k:Int)(ps:List bw) (n:Int):Ev X 103 [dI k,cP.sl ps,dI n] [] (An (cU k ps n)) []:=by
 refine Ev.bQ Tryz.func103 rfl λg=>?_
 have f:=g.sl 1 rfl;have c:bD X [(158,Gw)]:=.cons OZ .nil;refine aC c [] 100 rfl av ?_;refine AK.jP (λi=>i<=ps.length/\cU k ps n=cU k (ps.drop i) n) (λi:Nat=>[(0,dI k),(1,cP.sl ps),(2,dI n),(8,dI i)]) (λ_=>[]) (λi=>ps.length-i) 0 rfl (by simp[ag.cat,ag,aP.same]) rfl av ⟨by omega,rfl⟩ ?_
 rintro i ⟨hi,a⟩
 by_cases h:i<ps.length
 .have e:ps.drop i=ps.getD i (0,[])::ps.drop (i+1):=by grind [List.drop_eq_getElem_cons]
  have d:((ps.getD i cP.bE).1,dK.list (ps.getD i cP.bE).2.length (dK.fn (ps.getD i cP.bE).2))=ps.getD i (0,[]):=by rw[dK.list_fn];rfl
  rw[e,show cU k (ps.getD i (0,[])::ps.drop (i+1)) n=_ from List.findSome?_cons] at a
  cases b:dA k (ps.getD i (0,[])) n with
  |some q =>
   rw[b] at a;refine aC c [(14,ab),(27,ab)] 100 rfl ?_ (AK.gK (b6.zero rfl ?_))
   .simp[-ai,ag,d,b,h,dK.aH]
   .simp[-ai,ag,ag.cat,d,b,a]
  |none =>
   rw[b] at a;refine aC c [(14,ab),(27,ae)] 100 rfl ?_ (AK.fW (i+1) rfl (by simp[ag.cat,ag,aP.same]) rfl av ⟨h,a⟩ (by omega))
   simp[-ai,ag,d,b,h,bx,dK.aH];omega
 .obtain rfl:i=ps.length:=by omega
  refine aX [(14,ae)] 100 rfl (by simp[ag]) (AK.leave rfl rfl ?_)
  exact bk rfl av (AK.bn rfl (by rw[a,pJ];simp[ag,ag.cat,cU]))
abbrev CK:dk:=Dw aI (aL cP) aI (λk ps n=>An (cU k ps n)) λ_ _ _=>[]
def LO:dM X 103 CK:=.I8 λk ps n _=>EX k ps n
def LP(a b:List Bs):Ev X 159 [cS.sl a,cS.sl b] [] (dB (a==b)) []:=by
 refine Ev.bQ Tryz.func159 rfl λk=>?_
 have g:=k.sl 0 rfl
 by_cases e:a.length=b.length
 rotate_left
 .have:(a==b)=ae:=dt.2 (by rintro rfl;exact e rfl)
  exact aX [(10,ab)] 100 rfl (by simp[ag];omega) (AK.bn rfl (by simp[ag,this]))
 refine aX [(10,ae)] 100 rfl (by simp[ag];omega) ?_
 refine AK.jP (λi=>i<=a.length/\∀ j,j<i->a.getD j []=b.getD j []) (λi:Nat=>[(0,cS.sl a),(1,cS.sl b),(5,dI i)]) (λ_=>[]) (λi=>a.length-i) 0 rfl (by simp[ag.cat,ag,aP.same]) rfl av ⟨by omega,by omega⟩ ?_
 rintro i ⟨hi,f⟩
 by_cases h:i<a.length
 .have d:∀ l:List Bs,l.getD i cS.bE=l.getD i []:=λ_=>rfl
  by_cases c:a.getD i []=b.getD i []
  .refine aX [(14,ab),(25,ae)] 100 rfl ?_ (AK.fW (i+1) rfl (by simp[ag.cat,ag,aP.same]) rfl av ⟨h,λj m=>?_⟩ (by omega))
   .simp[-ai,ag,d,c,bx];omega
   grind
  .refine aX [(14,ab),(25,ab)] 100 rfl ?_ (AK.gK (b6.zero rfl ?_))
   .simp[-ai,ag,d,c];omega
   .have:(a==b)=ae:=dt.2 (by rintro rfl;exact c rfl)
    simp[ag,this]
 .obtain rfl:i=a.length:=by omega
  have:a=b:=pI e λj c n=>by grind
  refine aX [(14,ae)] 100 rfl (by simp[ag]) (AK.leave rfl rfl ?_)
  exact bk rfl av (AK.bn rfl (by simp[ag,this]))
def SA:dM X 159 Ot:=.tm λa b _=>LP a b
def uj(t:Bs):∀ k f p,p∈fg t k f->p.length<=8
 |0,_,p,h=>by simp[fg] at h
 |k+1,f,p,h=>by
  simp only[fg] at h;split at h
  .rename_i a
   rcases fb.1 h with rfl|h
   .have:=nq t f a
    grind
   .exact uj t k _ p h
  .cases h
def AS{l:List Bs}{p:Bs}(h:p∈l)(b:8<p.length):fQ l=af:=by
 unfold fQ;rw[aY];intro a;simp only[bL,fS] at a;have:=uj l.flatten l.flatten.length 0 p (by rw[show fg l.flatten l.flatten.length 0=l from a.2];exact h)
 omega
def uK(l:List Bs)(i:Nat):(l.take i).flatten.length<=l.flatten.length:=by
 have:l.flatten=(l.take i).flatten++(l.drop i).flatten:=by rw[<-List.flatten_append,j5]
 rw[this,bR];omega
def EY{l:List Bs}{i:Nat}(h:40<(l.take i).flatten.length):fQ l=af:=by
 have:=uK l i;unfold fQ;rw[aY];intro a;simp only[bL,dZ,ba] at a;omega
def LQ(l:List Bs):Ev X 104 [cS.sl l] [] (An (fQ l)) []:=by
 refine Ev.bQ Tryz.func104 rfl λm=>?_
 have k:=m.sl 0 rfl;have b:bD X [(94,Wq),(160,Gp),(159,Ot)]:=.cons t94 (.cons Lm (.cons SA .nil));refine aC b [] 100 rfl av ?_;refine AK.jP (λi=>i<=l.length/\(l.take i).flatten.length<=48) (λi:Nat=>[(0,cS.sl l),(4,dS (l.take i).flatten),(5,dI i)]) (λ_=>[]) (λi=>l.length-i) 0 rfl (by simp[ag.cat,ag,aP.same]) rfl av ⟨by omega,by simp⟩ ?_
 rintro i ⟨hi,f⟩
 by_cases h:i<l.length
 .have e:l.getD i cS.bE=l.getD i []:=rfl;have j:(l.take (i+1)).flatten=(l.take i).flatten++l.getD i []:=by rw[bq h []];simp
  by_cases a:(l.getD i []).length<=8
  .by_cases c:(l.take i).flatten.length<=40
   .refine aC b [(9,ab),(18,ae),(22,ae)] 100 rfl ?_ (AK.fW (i+1) rfl ?_ rfl av ⟨h,by rw[j,bR];omega⟩ (by omega))
    .simp[-ai,-List.length_flatten,ag,e,bx];omega
    .simp only[ag.cat,ag,j,aF,aE];exact⟨aP.same,rfl,rfl⟩
   .refine aC b [(9,ab),(18,ae),(22,ab)] 100 rfl ?_ (AK.gK (b6.zero rfl ?_))
    .simp[-ai,-List.length_flatten,ag,e];omega
    .simp[ag,ag.cat,EY (l:=l) (i:=i) (by omega)]
  .refine aC b [(9,ab),(18,ab),(22,ab)] 100 rfl ?_ (AK.gK (b6.zero rfl ?_))
   .simp[-ai,ag,e];omega
   .simp[ag,ag.cat,AS (iE (d:=[]) h) (by omega)]
 .obtain rfl:i=l.length:=by omega
  rw[b7] at f ⊢;refine aC b [(9,ae)] 100 rfl (by simp[ag]) (AK.leave rfl rfl ?_)
  have el:=cS.list_fn l;cases a:dZ l.flatten with
  |false=>exact aC b [(32,ab),(38,ab)] 100 rfl (by simp[ag,a]) (AK.bn rfl (by simp[ag,ag.cat,fQ,a]))
  |true =>
   have g:b8 l.flatten=ab:=by simp only[dZ,bL] at a;exact a.2
   cases c:(pieces l.flatten==l) with
   |false =>
    refine aC b [(32,ae),(38,ab)] 100 rfl ?_ (AK.bn rfl (by simp[ag,ag.cat,fQ,c]))
    simp[-List.length_flatten,ag,a,g,el,cS.list_fn,cS.aH,by simpa using c];omega
   |true =>
    refine aC b [(32,ae),(38,ae)] 100 rfl ?_ (AK.bn rfl (by simp[ag,ag.cat,fQ,a,c]))
    simp[-List.length_flatten,ag,a,g,el,cS.list_fn,cS.aH,by simpa using c];omega
abbrev LR:dk:=jZ (aL cS) (λl=>An (fQ l)) λ_=>[]
def SB:dM X 104 LR:=.ox λl _=>LQ l
abbrev Wr(s:cy):aV:=.cells 64 [.c (.int .i64 s.1),.c (.sl ae 2 s.2.length (cL.fn s.2))]
abbrev LS(k:Int)(ps:List bw)(ns:List Int):List Bs:=ns.map λn=>(cU k ps n).getD []
def O2{k:Int}{ps:List bw}{ns:List Int}{j:Nat}(h:j<ns.length):LS k ps (ns.take (j+1))=LS k ps (ns.take j)++[(cU k ps (ns.getD j 0)).getD []]:=by
 grind [bq]
def CL{k:Int}{ps:List bw}{ns:List Int}{j:Nat}(h:j<ns.length)(a:cU k ps (ns.getD j 0)=af):dF k ps ns=af:=by
 unfold dF;rw[aY]
 grind
def AT{k:Int}{ps:List bw}{ns:List Int}(h:∀ j,j<ns.length->(cU k ps (ns.getD j 0)).isSome=ab):dF k ps ns=aa (LS k ps ns):=by
 unfold dF;rw[bd]
 grind [List.mem_iff_getElem]
def AU(k:Int)(s:cy)(ps:List bw)(I:s.2.length<=4000000)(F:∀ x∈s.2,x.2.length<=4000000) :
  Ev X 64 [dI k,Ez s,cP.sl ps] [] (Gf ((cm k s ps).getD []) (cm k s ps).isSome) []:=by
 refine Ev.bQ Tryz.func64 rfl λK=>?_
 have a:bD X [(35,ui),(103,CK),(104,LR),(53,Tt)]:=.cons xa (.cons LO (.cons SB (.cons t53 .nil)));cases v:ck k with
 |false =>
  refine aC a [(19,ab)] 100 rfl ?_ (AK.bn rfl ?_)
  .simp[ag,v]
  .simp[ag,ag.cat,cm,v,aP.nil]
 |true =>
 refine aC a [(19,ae),(1000004,ab)] 100 rfl (by simp[ag,v]) ?_
 refine AK.iu 8 60 2 rfl rfl ?_;refine aC a [] 100 rfl av ?_;refine AK.bP 2 (λi=>i<=s.2.length/\∀ j,j<i->(fileOf k ps (s.2.getD j ([],[]))).isSome=ab) (λi:Nat=>[(0,dI k),(2,cP.sl ps),(4,.e (.one (.ptr 0 0))),(8,.e (.one (.vec 1 2 (cT k ps (s.2.take i)).length (cF.fn (cT k ps (s.2.take i)))))),(9,dI i)]) (λi=>[Wr s,.vec 60 2 (cT k ps (s.2.take i)).length (cF.fn (cT k ps (s.2.take i)))]) (λi=>s.2.length-i) 0 rfl (by simp[ag.cat,ag,aP.same,aP.nil,cT]) rfl (by simp[ag.cat,ag,aP.same,aP.nil,cT]) rfl ⟨by omega,by omega⟩ ?_
 rintro i ⟨hi,C⟩
 by_cases h:i<s.2.length
 .have D:=F _ (iE (d:=([],[])) h);have f:=pn (k:=k) (ps:=ps) h;have A:(cT k ps (s.2.take i)).length=i:=by simp[cT];omega
  have b:s.2.getD (i:Int).toNat cL.bE=s.2.getD i ([],[]):=by grind
  have g:=po (k:=k) (ps:=ps) h;generalize E:s.2.getD i ([],[])=x at D f b g;generalize cT k ps (s.2.take i)=fs at *;refine aC a [(25,ab),(1000008,ab)] 100 rfl (by simp[ag];omega) ?_
  refine AK.iu 10 9 1 rfl rfl ?_;refine aC a [] 100 rfl av ?_;refine AK.bP 3 (λj=>j<=x.2.length/\∀ q,q<j->(cU k ps (x.2.getD q 0)).isSome=ab) (λj:Nat=>[(0,dI k),(2,cP.sl ps),(4,.e (.one (.ptr 0 0))),(8,.e (.one (.vec 1 2 fs.length (cF.fn fs)))),(9,dI i),(10,.e (.one (.vec 2 1 (LS k ps (x.2.take j)).length (cS.fn (LS k ps (x.2.take j)))))),(11,dI j)]) (λj=>[Wr s,.vec 60 2 fs.length (cF.fn fs),.vec 9 1 (LS k ps (x.2.take j)).length (cS.fn (LS k ps (x.2.take j)))]) (λj=>x.2.length-j) 0 rfl (by simp[ag.cat,ag,aP.same,aP.nil]) rfl (by simp[ag.cat,ag,aP.same,aP.nil]) rfl ⟨by omega,by omega⟩ ?_
  rintro j ⟨J,y⟩
  by_cases z:j<x.2.length
  .have c:x.2.getD (j:Int).toNat cI.bE=x.2.getD j 0:=by grind
   cases m:cU k ps (x.2.getD j 0) with
   |none =>
    have e:fileOf k ps x=af:=by simp[fileOf,CL z m]
    refine aC a [(37,ab),(56,ab)] 100 rfl ?_ (AK.eh (AK.r8 (b6.zero rfl ?_)))
    .simp only[ag,b,c,m,cP.list_fn,cP.aH];grind
    .rw[g e];simp[ag,ag.cat,aP.nil]
   |some q =>
    have l:=O2 (k:=k) (ps:=ps) z;rw[m] at l;have p:(LS k ps (x.2.take j)).length=j:=by grind
    have o:=cS.cq (LS k ps (x.2.take j)) q;refine aC a [(37,ab),(56,ae)] 100 rfl ?_ (AK.aQ (j+1) rfl ?_ ?_ ⟨z,λr G=>?_⟩ (by omega))
    .simp only[ag,b,c,m,cP.list_fn,cP.aH,p,bx,show i9.bytes=16 from rfl];grind
    .rw[l];simp only[ag.cat,ag,b,c,m,cP.list_fn,bR,er,aF,aE]
     and_intros <;> first|exact aP.same|exact o|rfl|omega
    .rw[l];simp only[ag.cat,ag,b,c,m,cP.list_fn,bR,er,aF,aE]
     and_intros <;> first|exact aP.same|exact o|rfl|omega
    grind
  .obtain rfl:j=x.2.length:=by omega
   have u:=AT y;rw[b7];have p:(LS k ps x.2).length=x.2.length:=by simp
   refine aC a [(37,ae)] 100 rfl (by simp only[ag,b];simp[h]) (AK.leaveD rfl rfl ?_)
   cases n:fQ (LS k ps x.2) with
   |none =>
    have e:fileOf k ps x=af:=by simp[fileOf,u,n]
    refine aC a [(68,ab)] 100 rfl ?_ (AK.eh (b6.zero rfl ?_))
    .simp only[ag,cS.list_fn,cS.aH,n];simp
    .rw[g e];simp[ag,ag.cat,aP.nil]
   |some t =>
    have e:fileOf k ps x=aa (x.1,t):=by simp[fileOf,u,n]
    rw[e] at f;have B:=cF.cq fs (x.1,t);refine aC a [(68,ae)] 100 rfl ?_ (AK.aQ (i+1) rfl ?_ ?_ ⟨h,λr G=>?_⟩ (by omega))
    .simp only[ag,b,cS.list_fn,cS.aH,n,A,bx,show i60.bytes=32 from rfl];grind
    .rw[f];simp only[ag.cat,ag,b,cS.list_fn,n,fJ,bR,er,aF,aE]
     and_intros <;> first|exact aP.same|exact B|rfl|omega
    .rw[f];simp only[ag.cat,ag,b,cS.list_fn,n,fJ,bR,er,aF,aE]
     and_intros <;> first|exact aP.same|exact B|rfl|omega
    grind
 .obtain rfl:i=s.2.length:=by omega
  rw[b7];have H:s.2.all (λx=>(fileOf k ps x).isSome)=ab:=bu.2 λx D=>by
   grind [List.mem_iff_getElem]
  refine aC a [(25,ae)] 100 rfl (by simp[ag]) (AK.leaveD rfl rfl ?_)
  cases w:dq (cT k ps s.2) with
  |false =>
   refine aC a [(83,ab)] 100 rfl ?_ (AK.bn rfl ?_)
   .simp[ag,cF.list_fn,cF.aH,w]
   .simp[ag,ag.cat,cm,w,aP.nil]
  |true =>
   refine aC a [(83,ae)] 100 rfl ?_ (AK.bn rfl ?_)
   .simp[ag,cF.list_fn,cF.aH,w]
   .simp[ag,ag.cat,cm,w,v,H,aP.same]
abbrev qP:dk:=Dw aI (Ho cL) (aL cP) (λk s ps=>Gf ((cm k s ps).getD []) (cm k s ps).isSome) λ_ s _=>[s.2.length<=4000000,∀ x∈s.2,x.2.length<=4000000]
def xb:dM X 64 qP:=.I8 λk s ps h=>AU k s ps h.1 h.2
abbrev sA:=Int×Int
def gv(h:sA):Bool:=decide (1<=h.1/\h.1<=2)&&decide (1<=h.2/\h.2<=20)
def jw(l:List sA):Bool:=(bh l.length).all (λi=>gv (l.getD i (0,0)))&&decide (l.length<=9)
abbrev Yv(h:sA):D:=.e (.agg [.c (.int .i64 h.1),.c (.int .i64 h.2)])
def Ia(h:sA):Ev X 102 [Yv h] [] (dB (gv h)) []:=by
 refine Ev.bQ Tryz.func102 rfl λb=>?_
 have a:bD X [(15,od)]:=.cons oN .nil
 by_cases c:1<=h.1/\h.1<=2
 .exact aC a [(6,ab)] 100 rfl (by simp[ag,c]) (AK.bn rfl (by simp[ag,gv,c]))
 .exact aC a [(6,ae)] 100 rfl (by simp[ag];omega) (AK.bn rfl (by simp only[ag,gv,eC c];simp))
def Ib(l:List sA):Ev X 62 [cH.sl l] [] (dB (jw l)) []:=by
 refine Ev.bQ Tryz.func62 rfl λf=>?_
 have e:=f.sl 0 rfl;have b:bD X [(102,jZ Tp (λh=>dB (gv h)) λ_=>[])]:=.cons (.ox λh _=>Ia h) .nil
 refine aC b [] 100 rfl av ?_;unfold jw;refine AK.jP (λi=>i<=l.length/\∀ j,j<i->gv (l.getD j (0,0))=ab) (λi:Nat=>[(0,cH.sl l),(3,dI i)]) (λ_=>[]) (λi=>l.length-i) 0 rfl (by simp[ag.cat,ag,aP.same]) rfl av ⟨by omega,by omega⟩ ?_
 rintro i ⟨hi,a⟩
 by_cases h:i<l.length
 .have d:l.getD i cH.bE=l.getD i (0,0):=rfl;cases c:gv (l.getD i (0,0)) with
  |false =>
   refine aC b [(7,ab),(15,ab)] 100 rfl ?_ (AK.gK (b6.zero rfl ?_))
   .simp[-ai,ag,d,c,h]
   .rw[eb h c];simp[ag]
  |true =>
   refine aC b [(7,ab),(15,ae)] 100 rfl ?_ (AK.fW (i+1) rfl (by simp[ag.cat,ag,aP.same]) rfl av ⟨h,fh a c⟩ (by omega))
   simp[-ai,ag,d,c,h,bx];omega
 .obtain rfl:i=l.length:=by omega
  refine aC b [(7,ae)] 100 rfl (by simp[ag]) (AK.leave rfl rfl ?_)
  exact aC b [] 100 rfl av (AK.bn rfl (by rw[cf.2 a];simp[ag];omega))
abbrev lJ:dk:=jZ (aL cH) (λl=>dB (jw l)) λ_=>[]
def Gy:dM X 62 lJ:=.ox λl _=>Ib l
def bO(ps:List bw):List Int:=ps.flatMap λp=>p.2.map (·.1)
def CM{α:Type}(f:α->Int)(d:α)(l:List α)(i:Nat):Bool:=i==0||decide (f (l.getD (i-1) d)<f (l.getD i d))
def l9(k:Int)(ps:List bw)(i:Nat):Bool:=jm k (ps.getD i (0,[]))&&CM (·.1) (0,[]) ps i
def jW(k:Int)(s:aZ)(i:Nat):Bool:=decide (1<=(s.2.1.getD i (0,[])).1/\(s.2.1.getD i (0,[])).1<=20)&&CM (·.1) (0,[]) s.2.1 i&&(cm k (s.2.1.getD i (0,[])) s.1).isSome
def gG(k:Int)(s:aZ):Bool:=(bh s.1.length).all (l9 k s.1)&&decide (bO s.1).Nodup&&(bh s.2.1.length).all (jW k s)&&ck k&&jw s.2.2&&decide (s.1.length<=20)
def xc{ps:List bw}{i:Nat}(h:i<ps.length):bO (ps.take (i+1))=bO (ps.take i)++(ps.getD i (0,[])).2.map (·.1):=by
 rw[bq h (0,[])];simp[bO]
def Ic{ps:List bw}{i:Nat}(h:¬(bO (ps.take i)).Nodup):¬(bO ps).Nodup:=λa=>h (by
 have:bO ps=bO (ps.take i)++bO (ps.drop i):=by unfold bO;rw[<-rb,j5]
 grind)
abbrev Nf(s:aZ):aV:=.cells 27 [.c (.sl ae 2 s.1.length (cP.fn s.1)),.c (.sl ae 2 s.2.1.length (cp.fn s.2.1)),.c (.sl ae 2 s.2.2.length (cH.fn s.2.2))]
def LU(k:Int)(s:aZ)(x:cy)(c:x.2.length<=4000000)(a:∀ y∈x.2,y.2.length<=4000000):Ev X 90 [dI k,eH s,Ez x] [] (dB (cm k x s.1).isSome) []:=by
 refine Ev.bQ Tryz.func90 rfl λd=>?_
 have b:bD X [(64,qP)]:=.cons xb .nil;have e:(x.1,cL.list x.2.length (cL.fn x.2))=x:=by rw[cL.list_fn]
 refine aC b [] 100 rfl ?_ (AK.bn rfl ?_)
 .simp only[ag,cL.list_fn,cL.aH,cP.aH,c,aF,aE];exact a
 .simp[ag,ag.cat,cL.list_fn,cP.list_fn]
abbrev LV:dk:=Dw aI Ou (Ho cL) (λk s x=>dB (cm k x s.1).isSome) λ_ _ x=>[x.2.length<=4000000,∀ y∈x.2,y.2.length<=4000000]
def SC:dM X 90 LV:=.I8 λk s x h=>LU k s x h.1 h.2
def mJ{α:Type}{f:α->Int}{d:α}{l:List α}{i:Nat}(h:i≠0):CM f d l i=decide (f (l.getD (i-1) d)<f (l.getD i d)):=by
 unfold CM;grind
def CN(k:Int)(s:aZ)(L:iT s)(S:s.1.length<=4000000)(Q:s.2.1.length<=4000000):Ev X 48 [dI k,eH s] [] (dB (gG k s)) []:=by
 refine Ev.bQ Tryz.func48 rfl λR=>?_
 have c:bD X [(89,CI),(47,CJ),(15,od),(90,LV),(35,ui),(62,lJ)]:=.cons LN (.cons Gx (.cons oN (.cons SC (.cons xa (.cons Gy .nil)))));refine aC c [(1000002,ab)] 100 rfl av ?_;refine AK.iu 5 3 1 rfl rfl ?_;refine aC c [] 100 rfl av ?_;unfold gG;refine AK.bP 2 (λi=>i<=s.1.length/\(∀ j,j<i->l9 k s.1 j=ab)/\(bO (s.1.take i)).Nodup/\(bO (s.1.take i)).length<=4*i) (λi:Nat=>[(0,dI k),(3,.e (.one (.ptr 0 0))),(5,.e (.one (.vec 1 1 (bO (s.1.take i)).length (cI.fn (bO (s.1.take i)))))),(6,dI i)]) (λi=>[Nf s,.vec 3 1 (bO (s.1.take i)).length (cI.fn (bO (s.1.take i)))]) (λi=>s.1.length-i) 0 rfl (by simp[ag.cat,ag,aP.nil,bO]) rfl (by simp[ag.cat,ag,aP.nil,aP.same,bO]) rfl ⟨by omega,by omega,by simp[bO],by simp[bO]⟩ ?_
 rintro i ⟨hi,g,v,M⟩
 by_cases h:i<s.1.length
 .have x:=xc h;have E:=Ic (ps:=s.1) (i:=i+1);have m:s.1.getD i cP.bE=s.1.getD i (0,[]):=rfl;have n:s.1.getD (i-1) cP.bE=s.1.getD (i-1) (0,[]):=rfl;have b:l9 k s.1 i=(jm k (s.1.getD i (0,[]))&&CM (·.1) (0,[]) s.1 i):=rfl;have C:=mJ (f:=λp:bw=>p.1) (d:=(0,[])) (l:=s.1) (i:=i)
  generalize G:s.1.getD i (0,[])=p at *;generalize s.1.getD (i-1) (0,[])=p' at *;cases t:jm k p with
  |false =>
   rw[t,pK] at b;refine aC c [(14,ab),(25,ab),(44,ab)] 100 rfl ?_ (AK.eh (b6.zero rfl ?_))
   .simp[-ai,ag,m,t,dK.list_fn,dK.aH,h]
   .rw[eb h b];simp[ag]
  |true =>
   have O:p.2.length<=4:=by grind [px]
   rw[t,dN] at b;cases u:CM (·.1) (0,[]) s.1 i with
   |false =>
    have r:i≠0:=by rintro rfl;cases u
    have A:¬p'.1<p.1:=by grind
    refine aC c [(14,ab),(25,ae),(28,ab),(42,ab),(44,ab)] 100 rfl ?_ (AK.eh (b6.zero rfl ?_))
    .simp[-ai,ag,m,n,t,dK.list_fn,dK.aH,h,bx];omega
    .rw[eb h (b.trans u)];simp[ag]
   |true =>
   rw[u] at b
   apply AK.join [(0,dI k),(3,.e (.one (.ptr 0 0))),(5,.e (.one (.vec 1 1 (bO (s.1.take i)).length (cI.fn (bO (s.1.take i)))))),(6,dI i),(7,dI 0)] [Nf s,.vec 3 1 (bO (s.1.take i)).length (cI.fn (bO (s.1.take i)))]
   .intro z
    by_cases r:i=0
    .subst r;refine aC c [(14,ab),(25,ae),(28,ae),(44,ae)] 100 rfl ?_ (z _ _ rfl ?_)
     .simp[-ai,ag,m,t,dK.list_fn,dK.aH,h]
     .simp[ag.cat,ag,aP.same]
    .have A:p'.1<p.1:=by grind
     refine aC c [(14,ab),(25,ae),(28,ab),(42,ae),(44,ae)] 100 rfl ?_ (z _ _ rfl ?_)
     .simp[-ai,ag,m,n,t,dK.list_fn,dK.aH,h,bx];omega
     .simp[ag.cat,ag,aP.same]
   generalize bO (s.1.take i)=ns at *;refine AK.bP 2 (λj=>j<=p.2.length/\(ns++(p.2.take j).map (·.1)).Nodup) (λj:Nat=>[(0,dI k),(3,.e (.one (.ptr 0 0))),(5,.e (.one (.vec 1 1 (ns++(p.2.take j).map (·.1)).length (cI.fn (ns++(p.2.take j).map (·.1)))))),(6,dI i),(7,dI j)]) (λj=>[Nf s,.vec 3 1 (ns++(p.2.take j).map (·.1)).length (cI.fn (ns++(p.2.take j).map (·.1)))]) (λj=>p.2.length-j) 0 rfl (by simp[ag.cat,ag,aP.same]) rfl (by simp[ag.cat,ag,aP.same]) rfl ⟨by omega,by grind⟩ ?_
   rintro j ⟨P,H⟩
   by_cases o:j<p.2.length
   .have B:p.2.getD j dK.bE=fX p j:=rfl;have y:ns++(p.2.take (j+1)).map (·.1)=(ns++(p.2.take j).map (·.1))++[(fX p j).1]:=by grind [bq]
    have w:(ns++(p.2.take j).map (·.1)).length=ns.length+j:=by grind
    generalize ns++(p.2.take j).map (·.1)=a at *;cases K:a.contains (fX p j).1 with
    |true =>
     refine aC c [(53,ab),(67,ab)] 100 rfl ?_ (AK.eh (AK.r8 (b6.zero rfl ?_)))
     .simp[-ai,-List.contains_eq_mem,ag,m,B,h,o,K,cI.list_fn,cI.aH]
     .have N:¬(bO s.1).Nodup:=E (by
       have e:ns++p.2.map (·.1)=(ns++(p.2.take (j+1)).map (·.1))++(p.2.drop (j+1)).map (·.1):=by grind [List.take_append_drop]
       grind)
      simp[ag,N]
    |false =>
     have I:=cI.cq a (fX p j).1;have F:cI.list (ns.length+j) (cI.fn a)=a:=by rw[<-w];exact cI.list_fn a
     refine aC c [(53,ab),(67,ae)] 100 rfl ?_ (AK.aQ (j+1) rfl ?_ ?_ ⟨o,?_⟩ (by omega))
     .simp[-ai,-List.contains_eq_mem,ag,m,B,h,o,K,cI.list_fn,cI.aH,w,F,bx,show i3.bytes=8 from rfl];omega
     .rw[y];simp only[ag.cat,ag,bA,m,B,bR,er,aF,aE]
      and_intros <;> first|exact aP.same|exact I|rfl|omega
     .rw[y];simp only[ag.cat,ag,bA,m,B,bR,er,aF,aE]
      and_intros <;> first|exact aP.same|exact I|rfl|omega
     grind
   .obtain rfl:j=p.2.length:=by omega
    rw[b7] at H ⊢;refine aC c [(53,ae)] 100 rfl ?_ (AK.leaveD rfl rfl ?_)
    .simp[-ai,ag,m,h]
    refine aC c [] 100 rfl ?_ (AK.aQ (i+1) rfl ?_ ?_ ⟨h,fh g b,by grind,by grind⟩ (by omega))
    .simp[ag,bx];omega
    .rw[x];simp[ag.cat,ag,aP.same]
    .rw[x];simp[ag.cat,ag,aP.same]
 obtain rfl:i=s.1.length:=by omega
 rw[b7] at v ⊢;refine aC c [(14,ae)] 100 rfl (by simp[ag]) (AK.leaveD rfl rfl ?_)
 refine aC c [] 100 rfl av ?_;rw[cf.2 g,cn v,dN,dN];generalize bO s.1=ns;refine AK.bP 2 (λi=>i<=s.2.1.length/\(∀ j,j<i->jW k s j=ab)) (λi:Nat=>[(0,dI k),(3,.e (.one (.ptr 0 0))),(8,dI i)]) (λ_=>[Nf s,.vec 3 1 ns.length (cI.fn ns)]) (λi=>s.2.1.length-i) 0 rfl (by simp[ag.cat,ag]) rfl (by simp[ag.cat,ag,aP.same]) rfl ⟨by omega,by omega⟩ ?_
 rintro i ⟨hi,g⟩
 by_cases h:i<s.2.1.length
 .have m:s.2.1.getD i cp.bE=s.2.1.getD i (0,[]):=rfl;have n:s.2.1.getD (i-1) cp.bE=s.2.1.getD (i-1) (0,[]):=rfl;have q:=L _ (iE (d:=(0,[])) h);have b:jW k s i=(decide (1<=(s.2.1.getD i (0,[])).1/\(s.2.1.getD i (0,[])).1<=20)&&CM (·.1) (0,[]) s.2.1 i&&(cm k (s.2.1.getD i (0,[])) s.1).isSome):=rfl;have C:=mJ (f:=λp:cy=>p.1) (d:=(0,[])) (l:=s.2.1) (i:=i)
  generalize G:s.2.1.getD i (0,[])=p at *;generalize s.2.1.getD (i-1) (0,[])=p' at *
  by_cases c1:1<=p.1/\p.1<=20
  rotate_left
  .refine aC c [(85,ab),(96,ab),(116,ab),(126,ab)] 100 rfl ?_ (AK.eh (b6.zero rfl ?_))
   .simp[-ai,ag,m,h];omega
   .rw[eb h (by grind)];simp[ag]
  cases u:CM (·.1) (0,[]) s.2.1 i with
  |false =>
   have r:i≠0:=by rintro rfl;cases u
   have A:¬p'.1<p.1:=by grind
   refine aC c [(85,ab),(96,ae),(99,ab),(113,ab),(116,ab),(126,ab)] 100 rfl ?_ (AK.eh (b6.zero rfl ?_))
   .simp[-ai,ag,m,n,h,c1,bx];omega
   .rw[eb h (by grind)];simp[ag]
  |true =>
   rw[cn c1,u,dN,dN] at b;cases o:(cm k p s.1).isSome with
   |false =>
    by_cases r:i=0
    .subst r;refine aC c [(85,ab),(96,ae),(99,ae),(116,ae),(126,ab)] 100 rfl ?_ (AK.eh (b6.zero rfl ?_))
     .simp[-ai,ag,m,h,c1,cL.list_fn,cL.aH,cP.list_fn,cP.aH,cp.aH,cH.aH,o,q.1];grind
     .rw[eb h (b.trans o)];simp[ag]
    .have A:p'.1<p.1:=by grind
     refine aC c [(85,ab),(96,ae),(99,ab),(113,ae),(116,ae),(126,ab)] 100 rfl ?_ (AK.eh (b6.zero rfl ?_))
     .simp[-ai,ag,m,n,h,c1,bx,cL.list_fn,cL.aH,cP.list_fn,cP.aH,cp.aH,cH.aH,o,q.1];and_intros <;> first|omega|grind
     .rw[eb h (b.trans o)];simp[ag]
   |true =>
    rw[o] at b
    by_cases r:i=0
    .subst r;refine aC c [(85,ab),(96,ae),(99,ae),(116,ae),(126,ae)] 100 rfl ?_ (AK.aQ 1 rfl (by simp[ag.cat,ag]) (by simp[ag.cat,ag,aP.same]) ⟨h,fh g b⟩ (by omega))
     simp[-ai,ag,m,h,c1,bx,cL.list_fn,cL.aH,cP.list_fn,cP.aH,cp.aH,cH.aH,o,q.1];grind
    .have A:p'.1<p.1:=by grind
     refine aC c [(85,ab),(96,ae),(99,ab),(113,ae),(116,ae),(126,ae)] 100 rfl ?_ (AK.aQ (i+1) rfl (by simp[ag.cat,ag]) (by simp[ag.cat,ag,aP.same]) ⟨h,fh g b⟩ (by omega))
     simp[-ai,ag,m,n,h,c1,bx,cL.list_fn,cL.aH,cP.list_fn,cP.aH,cp.aH,cH.aH,o,q.1];and_intros <;> first|omega|grind
 obtain rfl:i=s.2.1.length:=by omega
 refine aC c [(85,ae)] 100 rfl (by simp[ag]) (AK.leaveD rfl rfl ?_)
 rw[cf.2 g,dN];cases D:ck k
 .exact aC c [(129,ae),(134,ae)] 100 rfl (by simp[ag,D]) (AK.bn rfl (by simp[ag]))
 cases J:jw s.2.2
 .exact aC c [(129,ab),(134,ae)] 100 rfl (by simp[ag,D,J,cH.list_fn,cH.aH]) (AK.bn rfl (by simp[ag]))
 exact aC c [(129,ab),(134,ab)] 100 rfl (by simp[ag,D,J,cH.list_fn,cH.aH]) (AK.bn rfl (by simp[ag];omega))
abbrev tC:dk:=p9 aI Ou (λk s=>dB (gG k s)) λ_ s=>[iT s,s.1.length<=4000000,s.2.1.length<=4000000]
def yW:dM X 48 tC:=.tm λk s h=>CN k s h.1 h.2.1 h.2.2
def iI(n:Int)(a:List Int×Bool) (y:Int):List Int×Bool :=
 if a.2=ab then (if y=n then a else (a.1++[y],ab)) else if n<=y then (if y=n then (a.1++[n],ab) else (a.1++[n,y],ab)) else (a.1++[y],ae)
abbrev py(n:Int)(l:List Int)(i:Nat):List Int×Bool:=(l.take i).foldl (iI n) ([],ae)
def kV(l:List Int) (n:Int):List Int:=if (l.foldl (iI n) ([],ae)).2=ab then (l.foldl (iI n) ([],ae)).1 else (l.foldl (iI n) ([],ae)).1++[n]
def CO{n:Int}{l:List Int}{i:Nat}(h:i<l.length):py n l (i+1)=iI n (py n l i) (l.getD i 0):=by
 grind [bq]
def xd(n:Int)(l:List Int):∀ i,i<=l.length->(py n l i).1.length+(if (py n l i).2=ab then 0 else 1)<=i+1
 |0,_=>by simp[py]
 |i+1,h=>by
  have:=xd n l i (by omega)
  rw[CO (by omega)]
  generalize py n l i=a at *;obtain⟨a,b⟩:=a;unfold iI
  grind
def LW(l:List Int) (n:Int):(kV l n).length<=l.length+1:=by
 have:=xd n l l.length (bg _);simp only[py,b7] at this;unfold kV;split at this <;> rename_i h
 .rw[bd h];omega
 .rw[aY h];simp;omega
def pt{α:Type}(c:hY α)(l:List α)(x y:α):aP (l.length+1+1) (cR (l.length+1) (cR l.length (c.fn l) λq=>[c.enc x].getD q []) λq=>[c.enc y].getD q []) (c.fn (l++[x,y])):=c.pt l x y
def LX(l:List Int) (n:Int)(r:l.length<=100000000):Ev X 88 [cI.sl l,dI n] [] (cI.sl (kV l n)) []:=by
 refine Ev.bQ Tryz.func88 rfl λq=>?_
 refine aX [(1000002,ab)] 100 rfl av ?_;refine AK.iu 5 3 1 rfl rfl ?_;refine bk rfl av ?_;refine AK.bP 1 (λi=>i<=l.length) (λi:Nat=>[(0,cI.sl l),(1,dI n),(5,.e (.one (.vec 0 1 (py n l i).1.length (cI.fn (py n l i).1)))),(6,dB (py n l i).2),(7,dI i)]) (λi=>[.vec 3 1 (py n l i).1.length (cI.fn (py n l i).1)]) (λi=>l.length-i) 0 rfl (by simp[py,ag.cat,ag,aP.same,aP.nil]) rfl (by simp[py,ag.cat,ag,aP.same,aP.nil]) rfl (by omega) ?_
 intro i hi;have j:=xd n l i hi
 by_cases h:i<l.length
 .have c:=CO (n:=n) h;have d:l.getD (i:Int).toNat cI.bE=l.getD i 0:=by rw[bA];rfl
  generalize l.getD i 0=y at *;generalize py n l i=a at *;obtain⟨a,b⟩:=a;have g:=λy=>cI.cq a y
  have o:=λx y=>cI.pt a x y
  have p:(a.length+1+1)*8<=140737488355328:=by grind
  have fin:∀ a',py n l (i+1)=a'->True:=λ_ _=>trivial
  have k:l.length-(i+1)<l.length-i:=by omega
  by_cases f:y=n
  .cases b with
   |true =>
    rw[show iI n (a,ab) y=(a,ab) by simp[iI,f]] at c
    refine aX [(12,ab),(34,ae)] 100 rfl ?_ (AK.aQ (i+1) rfl ?_ ?_ h k)
    .simp only[ag,d,f,bx];simp;omega
    .rw[c];simp[ag.cat,ag,aP.same]
    .rw[c];simp[ag.cat,ag,aP.same]
   |false =>
    rw[show iI n (a,ae) y=(a++[n],ab) by simp[iI,f]] at c
    refine aX [(12,ab),(24,ab),(34,ae)] 100 rfl ?_ (AK.aQ (i+1) rfl ?_ ?_ h k)
    .simp only[ag,d,f,bx,show i3.bytes=8 from rfl];simp;omega
    .rw[c];simp only[ag.cat,ag,bR,er,aF,aE];and_intros <;> first|exact aP.same|exact g n|rfl|omega
    .rw[c];simp only[ag.cat,ag,bR,er,aF,aE];and_intros <;> first|exact aP.same|exact g n|rfl|omega
  .cases b with
   |true =>
    rw[show iI n (a,ab) y=(a++[y],ab) by simp[iI,f]] at c
    refine aX [(12,ab),(34,ab)] 100 rfl ?_ (AK.aQ (i+1) rfl ?_ ?_ h k)
    .simp only[ag,d,bx,show i3.bytes=8 from rfl];simp[f];omega
    .rw[c];simp only[ag.cat,ag,d,bR,er,aF,aE];and_intros <;> first|exact aP.same|exact g y|rfl|omega
    .rw[c];simp only[ag.cat,ag,d,bR,er,aF,aE];and_intros <;> first|exact aP.same|exact g y|rfl|omega
   |false =>
    by_cases m:n<=y
    .rw[show iI n (a,ae) y=(a++[n,y],ab) by simp[iI,f,m]] at c
     refine aX [(12,ab),(24,ab),(34,ab)] 100 rfl ?_ (AK.aQ (i+1) rfl ?_ ?_ h k)
     .simp only[ag,d,bx,show i3.bytes=8 from rfl];simp[f,m];omega
     .rw[c];simp only[ag.cat,ag,d,bR,fa,ib,aF,aE];and_intros <;> first|exact aP.same|exact o n y|rfl|omega
     .rw[c];simp only[ag.cat,ag,d,bR,fa,ib,aF,aE];and_intros <;> first|exact aP.same|exact o n y|rfl|omega
    .rw[show iI n (a,ae) y=(a++[y],ae) by simp[iI,m]] at c
     refine aX [(12,ab),(24,ae),(34,ab)] 100 rfl ?_ (AK.aQ (i+1) rfl ?_ ?_ h k)
     .simp only[ag,d,bx,show i3.bytes=8 from rfl];simp[f,m];omega
     .rw[c];simp only[ag.cat,ag,d,bR,er,aF,aE];and_intros <;> first|exact aP.same|exact g y|rfl|omega
     .rw[c];simp only[ag.cat,ag,d,bR,er,aF,aE];and_intros <;> first|exact aP.same|exact g y|rfl|omega
 .obtain rfl:i=l.length:=by omega
  unfold kV;simp only[py,b7] at j ⊢;generalize l.foldl (iI n) ([],ae)=a at *;obtain⟨a,b⟩:=a;have g:=cI.cq a n;refine aX [(12,ae)] 100 rfl (by simp[ag]) (AK.leaveD rfl rfl ?_)
  cases b with
  |true=>exact bk rfl (by simp[ag]) (AK.bn rfl (by simp[ag,aP.same]))
  |false =>
   refine bk rfl ?_ (AK.bn rfl ?_)
   .simp only[ag,show i3.bytes=8 from rfl];simp at j ⊢;omega
   .simp only[ag,jE,cd,bR,er];and_intros <;> first|exact g|trivial
abbrev AV:dk:=p9 (aL cI) aI (λl n=>cI.sl (kV l n)) λl _=>[l.length<=100000000]
def EZ:dM X 88 AV:=.tm λl n h=>LX l n h
def gH(a:List Int):∀ l:List Int,(l.foldl kV a).length<=a.length+l.length
 |[]=>by simp
 |x::l=>by
  have:=gH (kV a x) l;have:=LW a x
  grind
def tD{b:Type}(f:b->Int->b)(a:b){l:List Int}{j:Nat}(h:j<l.length):(l.take (j+1)).foldl f a=f ((l.take j).foldl f a) (l.getD j 0):=by
 rw[bq h 0,nJ];rfl
def fi(l:List gj):List Int:=(cg l).foldl kV []
def ma(l:List gj):(fi l).length<=(cg l).length:=by
 have:=gH [] (cg l)
 rwa [ib,bt] at this
def xY(s:cy)(p:s.2.length<=4000000)(r:(cg s.2).length<=4000000):Ev X 87 [Ez s] [] (cI.sl (fi s.2)) []:=by
 refine Ev.bQ Tryz.func87 rfl λo=>?_
 have b:bD X [(88,AV)]:=.cons EZ .nil;refine aC b [] 100 rfl av ?_;refine AK.bP 1 (λi=>i<=s.2.length) (λi:Nat=>[(1,.e (.one (.ptr 0 0))),(3,cI.sl (fi (s.2.take i))),(4,dI i)]) (λ_=>[Wr s]) (λi=>s.2.length-i) 0 rfl (by simp[ag.cat,ag,aP.nil,fi,cg]) rfl (by simp[ag.cat,ag,aP.same]) rfl (by omega) ?_
 intro i hi
 by_cases h:i<s.2.length
 .have f:s.2.getD i cL.bE=s.2.getD i ([],[]):=rfl;have c:=sC h;have n:=ny s.2 (i+1);have t:=ma (s.2.take i);have m:fi (s.2.take (i+1))=(s.2.getD i ([],[])).2.foldl kV (fi (s.2.take i)):=by simp only[fi,c,nJ]
  rw[c,bR] at n;generalize s.2.getD i ([],[])=x at *;generalize fi (s.2.take i)=a at *;refine aC b [(11,ab)] 100 rfl (by simp[ag,h]) ?_
  refine AK.bP 1 (λj=>j<=x.2.length) (λj:Nat=>[(1,.e (.one (.ptr 0 0))),(3,cI.sl ((x.2.take j).foldl kV a)),(4,dI i),(5,dI j)]) (λ_=>[Wr s]) (λj=>x.2.length-j) 0 rfl (by simp[ag.cat,ag,aP.same]) rfl (by simp[ag.cat,ag,aP.same]) rfl (by omega) ?_
  intro j q
  by_cases g:j<x.2.length
  .have d:x.2.getD j cI.bE=x.2.getD j 0:=rfl;have k:=tD kV a g;have l:=gH a (x.2.take j);rw[List.length_take] at l;generalize (x.2.take j).foldl kV a=a2 at *;have e:=cI.list_fn a2;refine aC b [(22,ab)] 100 rfl ?_ (AK.aQ (j+1) rfl ?_ ?_ g (by omega))
   .simp[-ai,ag,f,d,h,g,e,cI.aH,bx];omega
   .rw[k];simp[-ai,ag.cat,ag,f,d,e,aP.same]
   .simp[ag.cat,ag,aP.same]
  .obtain rfl:j=x.2.length:=by omega
   rw[b7,<-m];refine aC b [(22,ae)] 100 rfl ?_ (AK.leaveD rfl rfl ?_)
   .simp[-ai,ag,f,h]
   refine aC b [] 100 rfl ?_ (AK.aQ (i+1) rfl ?_ ?_ h (by omega))
   .simp[ag,bx];omega
   .simp[ag.cat,ag,aP.same]
   .simp[ag.cat,ag,aP.same]
 .obtain rfl:i=s.2.length:=by omega
  rw[b7];refine aC b [(11,ae)] 100 rfl (by simp[ag]) (AK.leaveD rfl rfl ?_)
  exact aC b [] 100 rfl av (AK.bn rfl (by simp[ag,aP.same]))
abbrev AX:dk:=jZ (Ho cL) (λs=>cI.sl (fi s.2)) λs=>[s.2.length<=4000000,(cg s.2).length<=4000000]
def Gz:dM X 87 AX:=.ox λs h=>xY s h.1 h.2
def jy(l:List cy):List Int:=l.flatMap λx=>cg x.2
def fA(l:List cy):List Int:=l.foldl (λout x=>(fi x.2).foldl kV out) []
theorem qQ{l:List cy}{i:Nat}(h:i<l.length):jy (l.take (i+1))=jy (l.take i)++cg (l.getD i (0,[])).2:=by
 rw[bq h (0,[])];simp[jy]
def CP(l:List cy)(i:Nat):(jy (l.take i)).length<=(jy l).length:=by
 have h:jy l=jy (l.take i)++jy (l.drop i):=by unfold jy;rw[<-rb,j5]
 rw[h,bR];omega
def xe{l:List cy}{i:Nat}(h:i<l.length):fA (l.take (i+1))=(fi (l.getD i (0,[])).2).foldl kV (fA (l.take i)):=by
 unfold fA
 grind [bq]
def qd(l:List cy):∀ i,i<=l.length->(fA (l.take i)).length<=(jy (l.take i)).length
 |0,_=>by simp[fA]
 |i+1,h=>by
  have b:=qd l i (by omega)
  have c:=gH (fA (l.take i)) (fi (l.getD i (0,[])).2);have a:=ma (l.getD i (0,[])).2;rw[xe (by omega),qQ (by omega),bR]
  omega
def E3(s:aZ)(n:iT s)(w:s.2.1.length<=4000000)(t:(jy s.2.1).length<=4000000):Ev X 46 [eH s] [] (cI.sl (fA s.2.1)) []:=by
 refine Ev.bQ Tryz.func46 rfl λu=>?_
 have b:bD X [(88,AV),(87,AX)]:=.cons EZ (.cons Gz .nil);refine aC b [] 100 rfl av ?_;refine AK.bP 1 (λi=>i<=s.2.1.length) (λi:Nat=>[(1,.e (.one (.ptr 0 0))),(3,cI.sl (fA (s.2.1.take i))),(4,dI i)]) (λ_=>[Nf s]) (λi=>s.2.1.length-i) 0 rfl (by simp[ag.cat,ag,aP.nil,fA]) rfl (by simp[ag.cat,ag,aP.same]) rfl (by omega) ?_
 intro i hi
 by_cases h:i<s.2.1.length
 .have o:s.2.1.getD i cp.bE=s.2.1.getD i (0,[]):=rfl;have r:=n _ (iE (d:=(0,[])) h);have l:=qQ h;have q:=CP s.2.1 (i+1);have y:=qd s.2.1 i hi;have n:=xe h;rw[l,bR] at q;generalize s.2.1.getD i (0,[])=x at *;have p:=ma x.2;generalize fA (s.2.1.take i)=a at *;refine aC b [(12,ab)] 100 rfl ?_ ?_
  .simp[-ai,ag,h,o,cL.list_fn,cL.aH];omega
  have f:s.2.1.getD (i:Int).toNat cp.bE=x:=by rw[bA];exact o
  rw[f,cL.list_fn];refine AK.bP 1 (λj=>j<=(fi x.2).length) (λj:Nat=>[(1,.e (.one (.ptr 0 0))),(3,cI.sl (((fi x.2).take j).foldl kV a)),(4,dI i),(5,cI.sl (fi x.2)),(6,dI j)]) (λ_=>[Nf s]) (λj=>(fi x.2).length-j) 0 rfl (by simp[ag.cat,ag,aP.same]) rfl (by simp[ag.cat,ag,aP.same]) rfl (by omega) ?_
  intro j v;generalize fi x.2=ns at *
  by_cases g:j<ns.length
  .have c:ns.getD j cI.bE=ns.getD j 0:=rfl;have k:=tD kV a g;have m:=gH a (ns.take j);rw[List.length_take] at m;generalize (ns.take j).foldl kV a=a2 at *;have e:=cI.list_fn a2;refine aC b [(24,ab)] 100 rfl ?_ (AK.aQ (j+1) rfl ?_ ?_ g (by omega))
   .simp[-ai,ag,c,g,e,cI.aH,bx];omega
   .rw[k];simp[-ai,ag.cat,ag,c,e,aP.same]
   .simp[ag.cat,ag,aP.same]
  .obtain rfl:j=ns.length:=by omega
   rw[b7,<-n];refine aC b [(24,ae)] 100 rfl (by simp[ag]) (AK.leaveD rfl rfl ?_)
   refine aC b [] 100 rfl ?_ (AK.aQ (i+1) rfl ?_ ?_ h (by omega))
   .simp[ag,bx];omega
   .simp[ag.cat,ag,aP.same]
   .simp[ag.cat,ag,aP.same]
 .obtain rfl:i=s.2.1.length:=by omega
  rw[b7];refine aC b [(12,ae)] 100 rfl (by simp[ag]) (AK.leaveD rfl rfl ?_)
  exact aC b [] 100 rfl av (AK.bn rfl (by simp[ag,aP.same]))
abbrev xf:dk:=jZ Ou (λs=>cI.sl (fA s.2.1)) λs=>[iT s,s.2.1.length<=4000000,(jy s.2.1).length<=4000000]
def CQ:dM X 46 xf:=.ox λs h=>E3 s h.1 h.2.1 h.2.2
end
end Go.AM.R1
namespace Go.AM
def HA(M:Mem):List ak->List C->Prop
 |[],[]=>True
 |v::vs,c::cs=>Rd M v c/\HA M vs cs
 |_,_=>False
structure FA (α:Type) where
 enc:α->List C
 dec:List C->Option (α×List Prop×List C)
 ok:∀ {cs a o r},dec cs=aa (a,o,r)->ag o->∀ {M:Mem} {vs:List ak},HA M vs cs->∃ v1 v2,vs=v1++v2/\HA M v1 (enc a)/\HA M v2 r
def HA.app{M:Mem}:∀ {v1 v2:List ak}{c1 c2:List C},HA M v1 c1->HA M v2 c2->HA M (v1++v2) (c1++c2)
 |[],_,[],_,_,h=>h
 |_::_,_,_::_,_,h1,h2=>⟨h1.1,h1.2.app h2⟩
 |[],_,_::_,_,h,_=>h.elim
 |_::_,_,[],_,h,_=>h.elim
def HA.one{M:Mem}{vs:List ak}{c:C}{r:List C}(h:HA M vs (c::r)):∃ v a,vs=v::a/\Rd M v c/\HA M a r:=by
 cases vs with
 |nil=>exact h.elim
 |cons v vs=>exact⟨v,vs,rfl,h⟩
def fL{α:Type}(c:hY α):FA (List α):=⟨λl=>[.sl ae c.k l.length (c.fn l)],λcs=>match cs with
 |d::r=>match kR c.k (.e (.one (.c d))) with|some (n,es)=>aa (c.list n es,[c.fits n es],r)|none=>af
 |_=>af,λ{cs a o r} h g M vs hr=>by
 split at h
 .split at h
  .rename_i n es he
   cases h;obtain⟨v,b,rfl,f,i⟩:=hr.one;exact⟨[v],b,rfl,⟨c.jS (σ:=[]) (s:=⟨[],M,default,λ_=>True⟩) (v:=v) he g f,av⟩,i⟩
  .cases h
 .cases h⟩
def fP{α d:Type}(A:FA α)(B:FA d):FA (α×d):=⟨λx=>A.enc x.1++B.enc x.2,λcs=>match A.dec cs with
 |some (a,o,r)=>match B.dec r with|some (b,p,q)=>aa ((a,b),ko o p,q)|none=>af
 |none=>af,λ{cs a o r} h c M vs hr=>by
 split at h
 .rename_i e
  split at h
  .rename_i f
   cases h;rw[ag.cat] at c;obtain⟨v1,j,rfl,i,g2⟩:=A.ok e c.1 hr;obtain⟨g,v4,rfl,g3,g4⟩:=B.ok f c.2 g2;exact⟨v1++g,v4,(j8 _ _ _).symm,i.app g3,g4⟩
  .cases h
 .cases h⟩
def Wm:List A->Option (List C)
 |[]=>aa []
 |.c x::r=>match Wm r with|some q=>aa (x::q)|none=>af
 |_=>af
def Yh:List C->List A
 |[]=>[]
 |x::r=>.c x::Yh r
def K3{σ:List aV}{s:St}:∀ {cs:List A}{q:List C}{vs:List ak},Wm cs=aa q->dW σ s vs cs->HA s.M vs q
 |[],q,vs,h,a=>by cases h;cases vs with|nil=>trivial|cons=>exact a.elim
 |.c x::r,q,vs,h,a=>by
  simp only[Wm] at h;split at h
  .rename_i b
   cases h;cases vs with
   |nil=>exact a.elim
   |cons v vs=>exact⟨a.1,K3 b a.2⟩
  .cases h
 |.ptr ..::_,_,_,h,_=>by cases h
 |.vec ..::_,_,_,h,_=>by cases h
 |.ref ..::_,_,_,h,_=>by cases h
 |.bp ..::_,_,_,h,_=>by cases h
 |.any::_,_,_,h,_=>by cases h
def K4{σ:List aV}{s:St}:∀ {q:List C}{vs:List ak},HA s.M vs q->dW σ s vs (Yh q)
 |[],[],_=>trivial
 |_::_,_::_,h=>⟨h.1,K4 h.2⟩
 |[],_::_,h=>h.elim
 |_::_,[],h=>h.elim
def Yi{α:Type}(F:FA α):Arg α:=⟨λa=>.e (.agg (Yh (F.enc a))),λd=>match d with
 |.e (.agg xs)=>match Wm xs with
  |some cs=>match F.dec cs with|some (a,o,[])=>aa (a,o)|_=>af
  |none=>af
 |_=>af,λ{d a o} h g σ s v r=>by
 split at h
 .split at h
  .rename_i f
   split at h
   .rename_i i
    cases h;obtain⟨vs,rfl,b⟩:=r;obtain⟨v1,c,rfl,j,g2⟩:=F.ok i g (K3 f b);cases c with
    |nil=>exact⟨v1,by rw[k7],K4 j⟩
    |cons=>exact g2.elim
   .cases h
  .cases h
 .cases h⟩
end Go.AM
namespace Go.AM.R1
section
open Go.Proofs
variable {X:Cx ah}
abbrev cN:=aZ×List Int×List Int
abbrev dC:=Int×cN×(Int×Int×Int×Bs)×List (Int×Int)×List Int
abbrev fSt:FA aZ:=fP (fL cP) (fP (fL cp) (fL cH))
abbrev Yw:FA cN:=fP fSt (fP (fL cI) (fL cI))
abbrev qR{α:Type}(c:hY α)(l:List α):A:=.c (.sl ae c.k l.length (c.fn l))
abbrev Vr(w:cN):List A:=[qR cP w.1.1,qR cp w.1.2.1,qR cH w.1.2.2,qR cI w.2.1,qR cI w.2.2]
abbrev Ja(w:cN):D:=.e (.agg (Vr w))
abbrev Nh(w:dC):List A:=.c (.int .i64 w.1)::(Vr w.2.1++[.c (.int .i64 w.2.2.1.1),.c (.int .i64 w.2.2.1.2.1),.c (.int .i64 w.2.2.1.2.2.1),.c (.str w.2.2.1.2.2.2),qR cH w.2.2.2.1,qR cI w.2.2.2.2])
abbrev Dz(w:dC):D:=.e (.agg (Nh w))
structure O3 (s:aZ):Prop where
 pN:s.1.length<=4000000
 sm:iT s
 sN:s.2.1.length<=4000000
 aN:(jy s.2.1).length<=4000000
def mb(ps:List bw)(l:List Int)(i:Nat):Bool:=(ps.any λp=>p.1==l.getD i 0)&&CM (λx=>x) 0 l i
def fC(k:Int)(w:cN):Bool:=(fA w.1.2.1).all (λn=>w.2.1.contains n)&&(bh w.2.2.length).all (mb w.1.1 w.2.2)&&gG k w.1
def LY{l:List Int}{p:Int->Bool}:l.all p=(bh l.length).all λi=>p (l.getD i 0):=by
 rw[mg,cf,bu]
 grind [List.mem_iff_getElem]
def Ie{l:List bw}{p:bw->Bool}{j:Nat}(h:j<l.length):(l.take (j+1)).any p=((l.take j).any p||p (l.getD j (0,[]))):=by
 grind [bq]
abbrev Ni(w:cN):aV:=.cells 30 (Vr w)
def CR(k:Int)(w:cN)(m:O3 w.1):Ev X 26 [dI k,Ja w] [] (dB (fC k w)) []:=by
 refine Ev.bQ Tryz.func26 rfl λD=>?_
 have c:bD X [(46,xf),(47,CJ),(48,tC)]:=.cons CQ (.cons Gx (.cons yW .nil));have B:=D.LM 1 rfl 4 rfl;have u:=qd w.1.2.1 _ (bg _);rw[b7] at u;have C:=m.aN;refine aC c [] 100 rfl ?_ ?_
 .simp[ag,cP.list_fn,cP.aH,cp.list_fn,cp.aH,cH.list_fn,cH.aH,m.sm,m.sN,m.aN]
 rw[cp.list_fn];unfold fC;rw[LY];generalize fA w.1.2.1=ms at *;refine AK.bP 1 (λi=>i<=ms.length/\∀ j,j<i->w.2.1.contains (ms.getD j 0)=ab) (λi:Nat=>[(0,dI k),(3,.e (.one (.ptr 0 0))),(5,cI.sl ms),(6,dI i)]) (λ_=>[Ni w]) (λi=>ms.length-i) 0 rfl (by simp[ag.cat,ag,aP.same]) rfl (by simp[ag.cat,ag,aP.same]) rfl ⟨by omega,by omega⟩ ?_
 rintro i ⟨hi,a⟩
 by_cases h:i<ms.length
 .have o:ms.getD i cI.bE=ms.getD i 0:=rfl;cases t:w.2.1.contains (ms.getD i 0) with
  |false =>
   refine aC c [(16,ab),(26,ab)] 100 rfl ?_ (AK.eh (b6.zero rfl ?_))
   .simp[-ai,-List.contains_eq_mem,ag,o,h,t,cI.list_fn,cI.aH]
   .rw[eb h t];simp[ag]
  |true =>
   refine aC c [(16,ab),(26,ae)] 100 rfl ?_ (AK.aQ (i+1) rfl (by simp[ag.cat,ag,aP.same]) (by simp[ag.cat,ag,aP.same]) ⟨h,fh a t⟩ (by omega))
   simp[-ai,-List.contains_eq_mem,ag,o,h,t,cI.list_fn,cI.aH,bx];omega
 obtain rfl:i=ms.length:=by omega
 rw[cf.2 a,dN];refine aC c [(16,ae)] 100 rfl (by simp[ag]) (AK.leaveD rfl rfl ?_)
 refine aC c [] 100 rfl av ?_;refine AK.bP 1 (λi=>i<=w.2.2.length/\∀ j,j<i->mb w.1.1 w.2.2 j=ab) (λi:Nat=>[(0,dI k),(3,.e (.one (.ptr 0 0))),(7,dI i)]) (λ_=>[Ni w]) (λi=>w.2.2.length-i) 0 rfl (by simp[ag.cat,ag]) rfl (by simp[ag.cat,ag,aP.same]) rfl ⟨by omega,by omega⟩ ?_
 rintro i ⟨hi,a⟩
 by_cases h:i<w.2.2.length
 .have o:w.2.2.getD i cI.bE=w.2.2.getD i 0:=rfl;have q:w.2.2.getD (i-1) cI.bE=w.2.2.getD (i-1) 0:=rfl;have g:mb w.1.1 w.2.2 i=((w.1.1.any λp=>p.1==w.2.2.getD i 0)&&CM (λx=>x) 0 w.2.2 i):=rfl
  have z:=mJ (f:=λx:Int=>x) (d:=0) (l:=w.2.2) (i:=i)
  generalize w.2.2.getD i 0=n at *;generalize w.2.2.getD (i-1) 0=n' at *;refine aC c [(31,ab)] 100 rfl (by simp[ag,h]) ?_
  refine AK.bP 1 (λj=>j<=w.1.1.length) (λj:Nat=>[(0,dI k),(3,.e (.one (.ptr 0 0))),(7,dI i),(8,dB ((w.1.1.take j).any λp=>p.1==n)),(9,dI j)]) (λ_=>[Ni w]) (λj=>w.1.1.length-j) 0 rfl (by simp[ag.cat,ag]) rfl (by simp[ag.cat,ag,aP.same]) rfl (by omega) ?_
  intro j G
  by_cases r:j<w.1.1.length
  .have F:=m.pN;have y:w.1.1.getD j cP.bE=w.1.1.getD j (0,[]):=rfl;have s:=Ie (p:=λp=>p.1==n) r
   generalize w.1.1.getD j (0,[])=p at *;generalize (w.1.1.take j).any (λp=>p.1==n)=b at *
   cases b with
   |true =>
    refine aC c [(39,ab)] 100 rfl ?_ (AK.aQ (j+1) rfl ?_ ?_ r (by omega))
    .simp[ag,r,bx];omega
    .rw[s];simp[ag.cat,ag]
    .simp[ag.cat,ag,aP.same]
   |false =>
    refine aC c [(39,ab)] 100 rfl ?_ (AK.aQ (j+1) rfl ?_ ?_ r (by omega))
    .simp[-ai,ag,h,r,bx];omega
    .rw[s];simp[-ai,ag.cat,ag,y,o]
    .simp[ag.cat,ag,aP.same]
  obtain rfl:j=w.1.1.length:=by omega
  rw[b7];refine aC c [(39,ae)] 100 rfl (by simp[ag]) (AK.leaveD rfl rfl ?_)
  cases v:w.1.1.any (λp=>p.1==n) with
  |false =>
   rw[v,pK] at g;refine aC c [(77,ab)] 100 rfl (by simp[ag]) (AK.eh (b6.zero rfl ?_))
   rw[eb h g];simp[ag]
  |true =>
   rw[v,dN] at g
   by_cases A:i=0
   .subst A;refine aC c [(63,ae),(77,ae)] 100 rfl ?_ (AK.aQ 1 rfl (by simp[ag.cat,ag]) (by simp[ag.cat,ag,aP.same]) ⟨h,fh a (by rw[g];rfl)⟩ (by omega))
    simp[ag,bx]
   by_cases E:n'<n
   .refine aC c [(63,ab),(75,ae),(77,ae)] 100 rfl ?_ (AK.aQ (i+1) rfl (by simp[ag.cat,ag]) (by simp[ag.cat,ag,aP.same]) ⟨h,fh a (by grind)⟩ (by omega))
    simp[-ai,ag,o,q,h,bx];omega
   .refine aC c [(63,ab),(75,ab),(77,ab)] 100 rfl ?_ (AK.eh (b6.zero rfl ?_))
    .simp[-ai,ag,o,q,h,bx];omega
    .rw[eb h (by grind)];simp[ag]
 obtain rfl:i=w.2.2.length:=by omega
 rw[cf.2 a,dN];refine aC c [(31,ae)] 100 rfl (by simp[ag]) (AK.leaveD rfl rfl ?_)
 refine aC c [] 100 rfl ?_ (AK.bn rfl ?_)
 .simp[ag,cP.list_fn,cP.aH,cp.list_fn,cp.aH,cH.list_fn,cH.aH,m.sm,m.sN,m.pN]
 .simp[ag,cP.list_fn,cp.list_fn,cH.list_fn]
abbrev tE:dk:=p9 aI (Yi Yw) (λk w=>dB (fC k w)) λ_ w=>[O3 w.1]
def yX:dM X 26 tE:=.tm λk w h=>CR k w h
end
def y6{l:List Int}:∀ {k:Nat},(jY l k).length=k->∀ i,1<=i->i<k->l.getD i 0≠l.getD (i-1) 0
 |0,_,i,_,h=>by omega
 |k+1,h,i,a,d=>by
  have f:=sG l k;rw[jY] at h;split at h
  .omega
  .rename_i c
   simp only[bR,er] at h
   by_cases e:i=k
   .subst e;exactλb=>c ⟨by omega,b⟩
   .exact y6 (k:=k) (by omega) i a (by omega)
def A4(l:List Int):(mK l).Pairwise λx y=>x<=y:=by
 have:=List.pairwise_mergeSort (le:=λx y:Int=>decide (x<=y)) (λa b c d e=>by simp at *;omega) (λa b=>by simp;omega) l
 exact this.imp λh=>by simpa using h
def xj(l:List Int):(mK l).Perm l:=List.mergeSort_perm _ _
def AZ(l:List Int):(dT (mK l)).length=l.length↔l.Nodup:=by
 rw[<-gI l,<-(xj l).nodup_iff];have f:=A4 l;generalize mK l=s at *;have b:∀ {i:Nat} (h:i<s.length),s.getD i 0=s[i]:=λ{i} h=>by rw[ai,br h];rfl
 constructor
 .intro h;have c:=y6 h;refine List.Pairwise.imp (R:=λx y=>x<y) (λh e=>by omega) (j4.2 λi j hi hj Ws=>?_)
  have a:=j4.1 f;have d:=c j (by omega) hj
  rw[b hj,b (by omega)] at d
  have g:=a (j-1) j (by omega) hj (by omega)
  by_cases e:i=j-1
  .subst e;omega
  .have:=a i (j-1) hi (by omega) (by omega);omega
 .intro h;unfold dT;rw[nz (bg _),b7];intro i c a e;rw[b a,b (by omega)] at e
  have:=(j4.1 h) (i-1) i (by omega) a (by omega)
  exact this e.symm
def y7(n m:Int):∀ (l:List Int)(a:List Int)(b:Bool),(b=ab->n∈a) ->
  ((m∈(l.foldl (iI n) (a,b)).1∨(m=n/\(l.foldl (iI n) (a,b)).2=ae))↔((m∈a∨(m=n/\b=ae))∨m∈l))
 |[],a,b,_=>by simp
 |y::l,a,b,h=>by
  rw[jk];have one:∀ a' b',iI n (a,b) y=(a',b')->(b'=ab->n∈a')/\((m∈a'∨(m=n/\b'=ae))↔((m∈a∨(m=n/\b=ae))∨m=y)):=λa' b' e=>by
   unfold iI at e
   grind
  cases c:iI n (a,b) y with
  |mk a' b' =>
   obtain⟨d,f⟩:=one a' b' c;rw[y7 n m l a' b' d,f,fb,or_assoc]
def Ma{l:List Int}{n m:Int}:m∈kV l n↔m∈l∨m=n:=by
 have:=y7 n m l [] ae (by simp)
 unfold kV
 grind
def tG{m:Int}:∀ {l a:List Int},m∈l.foldl kV a↔m∈a∨m∈l
 |[],a=>by simp
 |x::l,a=>by rw[jk,tG,Ma,fb,or_assoc]
def Fb{l:List gj}{m:Int}:m∈fi l↔m∈cg l:=by unfold fi;rw[tG];simp
def y8{m:Int}:∀ {l:List cy}{a:List Int},m∈l.foldl (λout x=>(fi x.2).foldl kV out) a↔m∈a∨∃ x∈l,m∈cg x.2
 |[],a=>by simp
 |x::l,a=>by
  rw[jk,y8,tG,Fb,or_assoc];simp
def qe{l:List cy}{m:Int}:m∈fA l↔∃ x∈l,m∈cg x.2:=by unfold fA;rw[y8];simp
def C1{l:List Int}{m:Int}:∀ {j:Nat},j<=l.length->(m∈jY l j↔m∈l.take j)
 |0,_=>by simp[jY]
 |j+1,h=>by
  have c:=C1 (l:=l) (m:=m) (j:=j) (by omega)
  rw[jY,bq (by omega) 0]
  split
  .rename_i b
   rw[c,gC]
   constructor
   .exact .inl
   .rintro(a|a)
    .exact a
    .simp only[kY] at a;subst a;rw[b.2,ai,br (by omega)]
     exact lO.2 ⟨j-1,by simp;omega,by simp⟩
  grind
def xk{x:cy}{m:Int}:m∈gY x↔m∈cg x.2:=by
 unfold gY dT;rw[C1 (bg _),b7];exact(xj _).mem_iff
def Iq{l:List cy}{p:Int->Bool}:(fA l).all p=(bh l.length).all λi=>!(gY (l.getD i (0,[]))).any λn=>!p n:=by
 rw[mg,bu,cf]
 constructor
 .intro h i hi;rw[jh,List.any_eq_false];intro n a;have:=h n (qe.2 ⟨_,iE hi,xk.1 a⟩);simp[this]
 .intro h n a;obtain⟨x,d,c⟩:=qe.1 a;obtain⟨i,hi,rfl⟩:=lO.1 d;have b:=h i hi;rw[ai,br hi,fJ,jh,List.any_eq_false] at b;simpa using b n (xk.2 c)
def vj{α:Type}{l:List α}{i:Nat}(h:i<l.length)(d:α):l.getD i d=l[i]:=by grind
def vk{α:Type}{f:α->Int}{d:α}{l:List α}:(∀ i,i<l.length->CM f d l i=ab)↔l.Pairwise λx y=>f x<f y:=by
 constructor
 .intro h;have key:∀ n i j (hi:i<l.length) (a:j<l.length),j=i+n->0<n->f l[i]<f l[j]:=by
   intro n
   induction n with
   |zero=>grind
   |succ n g =>
    intro i j hi a b _;have c:=h j a;rw[mJ (by omega),decide_eq_true_iff,vj (by omega),vj a] at c
    by_cases e:n=0
    .subst e
     grind
    grind
  exact j4.2 λi j hi a b=>key (j-i) i j hi a (by omega) (by omega)
 .intro h i hi
  by_cases e:i=0
  .subst e;rfl
  .rw[mJ e,decide_eq_true_iff,vj (by omega),vj hi]
   exact(j4.1 h) (i-1) i (by omega) hi (by omega)
def qf{α:Type}{l:List α}{p:α->Bool}{d:α}:(∀ i,i<l.length->p (l.getD i d)=ab)↔∀ x∈l,p x=ab:=by
 grind [List.mem_iff_getElem]
structure y9 (k:Int)(p:bw):Prop where
 no:1<=p.1/\p.1<=99
 key:ck k=ab
 len:1<=p.2.length/\p.2.length<=4
 rt:∀ x∈p.2,right k x=ab
 CM:p.2.Pairwise λx y=>x.1<y.1
def xl{k:Int}{p:bw}:jm k p=ab↔y9 k p:=by
 rw[px];simp only[bL,ba,cf];have e:(∀ i,i<p.2.length->iH k p i=ab)↔(∀ x∈p.2,right k x=ab)/\p.2.Pairwise λx y=>x.1<y.1:=by
  rw[<-qf (d:=(0,[])),<-vk (f:=λx:cC=>x.1) (d:=(0,[]))]
  constructor
  .intro h;exact⟨λi hi=>by have:=h i hi;simp only[iH,bL] at this;exact this.1,λi hi=>by have:=h i hi;simp only[iH,bL] at this;exact this.2⟩
  .intro h i hi;simp only[iH,bL];exact⟨h.1 i hi,h.2 i hi⟩
 rw[e]
 constructor
 .rintro⟨⟨⟨g,j⟩,a⟩,c,b⟩;exact⟨g,j,a,c,b⟩
 .rintro⟨g,j,a,c,b⟩;grind
structure qS (k:Int)(s:aZ):Prop where
 pk:∀ p∈s.1,y9 k p
 pa:s.1.Pairwise λp q=>p.1<q.1
 nd:(bO s.1).Nodup
 sn:∀ x∈s.2.1,(1<=x.1/\x.1<=20)/\(cm k x s.1).isSome=ab
 sa:s.2.1.Pairwise λx y=>x.1<y.1
 key:ck k=ab
 log:jw s.2.2=ab
 len:s.1.length<=20
def C2{k:Int}{s:aZ}:gG k s=ab↔qS k s:=by
 unfold gG;simp only[bL,ba,cf];have o:(∀ i,i<s.1.length->l9 k s.1 i=ab)↔(∀ p∈s.1,y9 k p)/\s.1.Pairwise λp q=>p.1<q.1:=by
  rw[<-vk (f:=λp:bw=>p.1) (d:=(0,[]))]
  have:(∀ p∈s.1,y9 k p)↔∀ p∈s.1,jm k p=ab:=⟨λh p b=>xl.2 (h p b),λh p b=>xl.1 (h p b)⟩
  rw[this,<-qf (d:=(0,[]))]
  constructor
  .intro h;exact⟨λi hi=>by have:=h i hi;simp only[l9,bL] at this;exact this.1,λi hi=>by have:=h i hi;simp only[l9,bL] at this;exact this.2⟩
  .intro h i hi;simp only[l9,bL]
   grind
 have r:(∀ i,i<s.2.1.length->jW k s i=ab)↔(∀ x∈s.2.1,(1<=x.1/\x.1<=20)/\(cm k x s.1).isSome=ab)/\s.2.1.Pairwise λx y=>x.1<y.1:=by
  rw[<-vk (f:=λp:cy=>p.1) (d:=(0,[]))]
  have:(∀ x∈s.2.1,(1<=x.1/\x.1<=20)/\(cm k x s.1).isSome=ab)↔∀ x∈s.2.1,(decide (1<=x.1/\x.1<=20)&&(cm k x s.1).isSome)=ab:=by
   grind
  rw[this,<-qf (d:=(0,[]))]
  constructor
  .intro h;exact⟨λi hi=>by have:=h i hi;simp only[jW,bL] at this ⊢;grind,λi hi=>by have:=h i hi;simp only[jW,bL] at this;exact this.1.2⟩
  .intro h i hi;have a:=h.1 i hi;simp only[jW,bL] at a ⊢
   grind
 rw[o,r]
 constructor
 .rintro⟨⟨⟨⟨⟨⟨a,m⟩,c⟩,j,g⟩,l⟩,n⟩,e⟩;exact⟨a,m,c,j,g,l,n,e⟩
 .rintro⟨a,m,c,j,g,l,n,e⟩;grind
structure Mb (k:Int)(w:cN):Prop extends qS k w.1 where
 mk':∀ x∈w.1.2.1,∀ n∈cg x.2,n∈w.2.1
 lp:∀ n∈w.2.2,∃ p∈w.1.1,p.1=n
 la:w.2.2.Pairwise λx y=>x<y
def ur{k:Int}{w:cN}:fC k w=ab↔Mb k w:=by
 unfold fC;simp only[bL,C2,cf];have l:(fA w.1.2.1).all (λn=>w.2.1.contains n)=ab↔∀ x∈w.1.2.1,∀ n∈cg x.2,n∈w.2.1:=by
  rw[bu]
  constructor
  .intro h x j n a;simpa using h n (qe.2 ⟨x,j,a⟩)
  .intro h n a;obtain⟨x,j,a⟩:=qe.1 a
   grind
 have m:(∀ i,i<w.2.2.length->mb w.1.1 w.2.2 i=ab)↔(∀ n∈w.2.2,∃ p∈w.1.1,p.1=n)/\w.2.2.Pairwise λx y=>x<y:=by
  rw[<-vk (f:=λn:Int=>n) (d:=0)]
  have:(∀ n∈w.2.2,∃ p∈w.1.1,p.1=n)↔∀ n∈w.2.2,(w.1.1.any λp=>p.1==n)=ab:=by simp
  rw[this,<-qf (d:=0)]
  constructor
  .intro h;exact⟨λi hi=>by have:=h i hi;simp only[mb,bL] at this;exact this.1,λi hi=>by have:=h i hi;simp only[mb,bL] at this;exact this.2⟩
  .intro h i hi;simp only[mb,bL]
   grind
 rw[l,m]
 constructor
 .rintro⟨⟨g,c,b⟩,e⟩;exact⟨e,g,c,b⟩
 .rintro⟨e,g,c,b⟩;grind
def ln(no:Int)(ms:List Int)(p:bw):bw:=if p.1=no then jb p ms else p
def jo(no:Int)(ms:List Int)(ps:List bw):List bw:=(ps.map (ln no ms)).filter λp=>!p.2.isEmpty
def A5(w:cN):cN:=match w.2.2 with
 |[]=>w
 |no::r=>((jo no w.2.1 w.1.1,w.1.2),w.2.1,r)
theorem za{no:Int}{ms:List Int}{p:bw}:(ln no ms p).1=p.1:=by unfold ln jb;split <;> rfl
theorem Fc{no:Int}{ms:List Int}{p:bw}:List.Sublist (ln no ms p).2 p.2:=by unfold ln jb;split <;> simp
def Fe{no:Int}{ms:List Int}{ps:List bw}{q:bw}(h:q∈jo no ms ps):∃ p∈ps,q=ln no ms p/\q.2≠[]:=by
 unfold jo at h
 grind
abbrev A2(l:List bC):Prop:=l.Pairwise λa b=>bl a.1 b.1=ab
def xh{t:List bC}(h:dq t=ab):A2 t:=by
 simp only[dq,bL] at h;have a:=cf.1 h.1;rw[A2,j4];intro i j hi hj Ws;rw[fileAt hi,fileAt hj];refine Vm (t:=t) (i:=j) (λk c b=>?_) i Ws
 have:=a k (by omega)
 simp only[gu,bL,mP,fS] at this;exact this.1.2.resolve_left (by omega)
def uo{t:List bC}:dq t=ab↔(∀ f∈t,dw f.1=ab/\dZ f.2=ab)/\A2 t/\t.Pairwise (λa b=>clash a.1 b.1=ae)/\t.length<=6:=by
 constructor
 .intro h;have o:=xh h;simp only[dq,bL,ba] at h;have c:=cf.1 h.1;refine⟨λf k=>?_,o,?_,h.2⟩
  .obtain⟨i,hi,rfl⟩:=dH k;have:=c i hi;simp only[gu,bL] at this;rw[fileAt hi];exact⟨this.1.1.1,this.1.1.2⟩
  .rw[j4];intro i j hi hj Ws;have:=c j hj;simp only[gu,bL] at this;have:=cf.1 this.2 i Ws;rw[fileAt hi,fileAt hj];simpa using this
 .rintro⟨m,n,g,l⟩;simp only[dq,bL,ba];refine⟨cf.2 λi hi=>?_,l⟩
  have d:=m _ (nG hi);rw[fileAt hi] at d;simp only[gu,bL,mP,fS];refine⟨⟨d,?_⟩,cf.2 λj hj=>?_⟩
  .by_cases e:i=0
   .exact .inl e
   .right
    have:=j4.1 n (i-1) i (by omega) hi (by omega)
    rw[fileAt (by omega),fileAt hi] at this
    exact this
  .have:=j4.1 g j i (by omega) hi hj
   rw[fileAt (by omega),fileAt hi] at this
   simp[this]
section
open Go.Proofs
variable {X:Cx ah}
theorem Cy{s r:Bs}(h:b8 s=ab)(a:∀ b∈r,b∈s):b8 r=ab:=by
 unfold b8 at h ⊢
 grind
def wX{t:Bs}(b:b8 t=ab):∀ k f,∀ p∈fg t k f,bG p=ab
 |0,_,p,a=>by simp[fg] at a
 |k+1,f,p,a=>by
  simp only[fg] at a;split at a
  .rename_i h
   have d:=nq t f h;rcases fb.1 a with rfl|a
   .have c:((t.drop f).take (cutAt t f-f)).length=cutAt t f-f:=by grind
    simp only[bG,bL,ba]
    grind [Cy]
   .exact wX b k _ p a
  grind
def tv{t:Bs}(a:b8 t=ab):∀ p∈pieces t,bG p=ab:=wX a _ _
def ud(t:Bs):∀ k f,(fg t k f).length<=k
 |0,_=>bg _
 |k+1,f=>by
  simp only[fg];split
  .have:=ud t k (cutAt t f);grind
  .simp
def oe(t:Bs):(pieces t).length<=t.length:=ud t _ _
def kt(t:List bC):List Bs:=t.flatMap λf=>pieces f.2
def HS{t:List bC}{i:Nat}(h:i<t.length):kt (t.take (i+1))=kt (t.take i)++pieces (t.getD i ([],[])).2:=by
 rw[bq h ([],[])];simp[kt]
def OQ(t:List bC)(i:Nat):(kt (t.take i)).length<=(kt t).length:=by
 have h:kt t=kt (t.take i)++kt (t.drop i):=by
  unfold kt
  grind [List.take_append_drop]
 grind
def yI(k:Int)(l:List dm)(ps:List Bs):∀ a:List Bs,(ps.foldl (nv k l) a).length<=a.length+ps.length:=by
 induction ps with
 |nil=>grind
 |cons p r b =>
  intro a;have d:=b (nv k l a p);have c:(nv k l a p).length<=a.length+1:=by unfold nv;split <;> simp
  grind
abbrev LA:dk:=p9 (aL oL) aI (λl n=>dI (ub l n)) λl _=>[l.length<=4000000]
def Si:dM X 199 LA:=.tm λl n h=>Lf l n h
abbrev Qn:dk:=p9 (aL cS) aS (λl p=>dB (l.contains p)) λl _=>[l.length<=4000000]
def U9:dM X 200 Qn:=.tm λl p h=>OJ l p h
abbrev dV0(a:List Bs):D:=.e (.one (.vec 0 1 a.length (cS.fn a)))
structure wR (t:List bC):Prop where
 len:t.length<=4000000
 AJ:∀ f∈t,b8 f.2=ab/\f.2.length<=4000000
 all:(kt t).length<=100000
def Lr(k:Int)(t:List bC)(l:List dm)(q:ck k=ab)(s:wR t)(B:l.length<=4000000):Ev X 183 [dI k,cF.sl t,oL.sl l] [] (cS.sl (jU k t l)) []:=by
 refine Ev.bQ Tryz.func183 rfl λE=>?_
 have c:bD X [(160,Gp),(181,AO),(199,LA),(200,Qn)]:=.cons Lm (.cons AH (.cons Si (.cons U9 .nil)));refine aC c [(1000002,ab)] 200 rfl av ?_;refine AK.iu 7 9 1 rfl rfl ?_;refine aC c [] 200 rfl av ?_;refine AK.bP 1 (λi=>i<=t.length) (λi:Nat=>[(0,dI k),(1,cF.sl t),(2,oL.sl l),(7,dV0 ((kt (t.take i)).foldl (nv k l) [])),(8,dI i)]) (λi=>[.vec 9 1 ((kt (t.take i)).foldl (nv k l) []).length (cS.fn ((kt (t.take i)).foldl (nv k l) []))]) (λi=>t.length-i) 0 rfl ?_ rfl ?_ rfl (by omega) ?_
 .simp[ag.cat,ag,aP.same,aP.nil,kt]
 .simp[ag.cat,ag,aP.same,aP.nil,kt]
 intro i hi
 by_cases h:i<t.length
 .have v:t.getD (i:Int).toNat cF.bE=t.getD i ([],[]):=by grind
  have n:t.getD i ([],[])∈t:=by grind
  obtain⟨x,F⟩:=s.AJ _ n;have e:=HS h;have u:=OQ t (i+1);have w:=s.all;have A:=s.len;have r:=tv x;generalize t.getD i ([],[])=f at *;rw[e,bR] at u;refine aC c [(15,ab)] 200 rfl ?_ ?_
  .simp only[ag,v,x,ba,aF,aE];and_intros <;> omega
  rw[v];refine AK.bP 1 (λj=>j<=(pieces f.2).length) (λj:Nat=>[(0,dI k),(1,cF.sl t),(2,oL.sl l),(7,dV0 ((kt (t.take i)++(pieces f.2).take j).foldl (nv k l) [])),(8,dI i),(9,cS.sl (pieces f.2)),(10,dI j)]) (λj=>[.vec 9 1 ((kt (t.take i)++(pieces f.2).take j).foldl (nv k l) []).length (cS.fn ((kt (t.take i)++(pieces f.2).take j).foldl (nv k l) []))]) (λj=>(pieces f.2).length-j) 0 rfl ?_ rfl ?_ rfl (by omega) ?_
  .simp[ag.cat,ag,aP.same]
  .simp[ag.cat,ag,aP.same]
  intro j D;have o:=yI k l (kt (t.take i)++(pieces f.2).take j) [];simp only[ib,bR,List.length_take] at o
  by_cases C:j<(pieces f.2).length
  .have b:(pieces f.2).getD (j:Int).toNat cS.bE=(pieces f.2).getD j []:=by grind
   have g:bG ((pieces f.2).getD j [])=ab:=r _ (by grind)
   have a:(kt (t.take i)++(pieces f.2).take (j+1)).foldl (nv k l) []=nv k l ((kt (t.take i)++(pieces f.2).take j).foldl (nv k l) []) ((pieces f.2).getD j []):=by
    grind [bq]
   generalize (kt (t.take i)++(pieces f.2).take j).foldl (nv k l) []=out at *;generalize (pieces f.2).getD j []=p at *;have z:=cS.cq out p
   by_cases d:ub l (hO k p)=0
   .cases y:out.contains p with
    |true =>
     rw[nv,aY (by grind)] at a
     refine aC c [(27,ab),(38,ab),(45,ab)] 200 rfl ?_ (AK.aQ (j+1) rfl ?_ ?_ ?_ ?_)
     .simp only[ag,b,q,g,d,y,bx,cS.list_fn,oL.list_fn,eB,ba,aF,aE];and_intros <;> first|exact cS.aH _|exact oL.aH _|omega
     .rw[a];simp[ag.cat,ag,aP.same]
     .rw[a];simp[ag.cat,ag,aP.same]
     .grind
     .omega
    |false =>
     rw[nv,bd (by grind)] at a
     refine aC c [(27,ab),(38,ab),(45,ae)] 200 rfl ?_ (AK.aQ (j+1) rfl ?_ ?_ ?_ ?_)
     .simp only[ag,b,q,g,d,y,bx,show i9.bytes=16 from rfl,cS.list_fn,oL.list_fn,eB,ba,aF,aE];and_intros <;> first|exact cS.aH _|exact oL.aH _|omega
     .rw[a];simp only[ag.cat,ag,b,bR,fa,ib,aF,aE]
      and_intros <;> first|exactλ_ _=>rfl|exact z|rfl|omega
     .rw[a];simp only[ag.cat,ag,b,bR,fa,ib,aF,aE]
      and_intros <;> first|exact z|rfl|omega
     .grind
     .omega
   .rw[nv,aY (by grind)] at a
    refine aC c [(27,ab),(38,ae)] 200 rfl ?_ (AK.aQ (j+1) rfl ?_ ?_ ?_ ?_)
    .simp only[ag,b,q,g,bx,oL.list_fn,dt,cW,d,nI,ba,aF,aE];and_intros <;> first|exact oL.aH _|omega
    .rw[a];simp[ag.cat,ag,aP.same]
    .rw[a];simp[ag.cat,ag,aP.same]
    .grind
    .omega
  .have m:j=(pieces f.2).length:=by omega
   refine aC c [(27,ae)] 200 rfl (by simp only[ag,bM];omega) (AK.leaveD rfl rfl ?_)
   refine aC c [] 200 rfl ?_ (AK.aQ (i+1) rfl ?_ ?_ ?_ ?_)
   .simp only[ag,bx];omega
   .rw[e,m,b7];simp[ag.cat,ag,aP.same]
   .rw[e,m,b7];simp[ag.cat,ag,aP.same]
   .grind
   .omega
 .obtain rfl:i=t.length:=by omega
  rw[b7];refine aC c [(15,ae)] 200 rfl (by simp[ag]) (AK.leaveD rfl rfl ?_)
  refine aC c [] 200 rfl av (AK.bn rfl ?_);simp[ag,ag.cat,aP.same,jU,kt]
abbrev pv(k:Int)(ps:List Bs):List Int:=ps.map (hO k)
abbrev tz(k:Int)(t:List bC):List gj:=t.map (yS k)
abbrev Qo(no:Int)(ls:List gj):List aV:=[.cells 64 [.c (.int .i64 0),.c (.sl ab 0 0 λ_=>[])],.cells 64 [.c (.int .i64 no),.vec 2 2 ls.length (cL.fn ls)],.vec 92 2 ls.length (cL.fn ls)]
def ON(no k:Int)(t:List bC)(v:ck k=ab)(s:wR t):Ev X 186 [dI no,dI k,cF.sl t] [] (Ez (kr no k t)) []:=by
 refine Ev.iv tok Tryz.func186 rfl rfl rfl λA=>?_
 have a:bD X [(160,Gp),(181,AO)]:=.cons Lm (.cons AH .nil);refine aC a [(1000002,ab)] 200 rfl av ?_;refine AK.gm 1 1 92 2 (cL.fn []) rfl rfl ?_;refine aC a [] 200 rfl av ?_;refine AK.bP 3 (λi=>i<=t.length) (λi:Nat=>[(1,dI k),(2,cF.sl t),(6,.e (.one (.ptr 0 0))),(7,.e (.one (.ptr 1 0))),(8,dI i)]) (λi=>Qo no (tz k (t.take i))) (λi=>t.length-i) 0 rfl ?_ rfl ?_ rfl (by omega) ?_
 .simp[ag.cat,ag,aP.same]
 .simp[ag.cat,ag,aP.same,aP.nil]
 intro i hi
 by_cases h:i<t.length
 .have l:t.getD (i:Int).toNat cF.bE=t.getD i ([],[]):=by rw[bA];rfl
  have d:t.getD i ([],[])∈t:=by grind
  obtain⟨q,B⟩:=s.AJ _ d;have y:=s.len;have m:=tv q;have z:=oe (t.getD i ([],[])).2;have g:tz k (t.take (i+1))=tz k (t.take i)++[yS k (t.getD i ([],[]))]:=by
   rw[bq h ([],[]),tz,rm];rfl
  have u:(tz k (t.take i)).length=i:=by simp;omega
  generalize t.getD i ([],[])=f at *;generalize tz k (t.take i)=ls at *;refine aC a [(18,ab),(1000007,ab)] 200 rfl ?_ ?_
  .simp only[ag,l,q,ba,aF,aE];and_intros <;> omega
  rw[l];refine AK.iu 10 3 1 rfl rfl ?_;refine aC a [] 200 rfl av ?_;refine AK.bP 4 (λj=>j<=(pieces f.2).length) (λj:Nat=>[(1,dI k),(2,cF.sl t),(6,.e (.one (.ptr 0 0))),(7,.e (.one (.ptr 1 0))),(8,dI i),(9,cS.sl (pieces f.2)),(10,.e (.one (.vec 3 1 j (cI.fn (pv k ((pieces f.2).take j)))))),(11,dI j)]) (λj=>Qo no ls++[.vec 3 1 j (cI.fn (pv k ((pieces f.2).take j)))]) (λj=>(pieces f.2).length-j) 0 rfl ?_ rfl ?_ rfl (by omega) ?_
  .simp[ag.cat,ag,aP.same,aP.nil]
  .simp[ag.cat,ag,aP.same,aP.nil]
  intro j r
  by_cases x:j<(pieces f.2).length
  .have b:(pieces f.2).getD (j:Int).toNat cS.bE=(pieces f.2).getD j []:=by rw[bA];rfl
   have o:bG ((pieces f.2).getD j [])=ab:=m _ (by grind)
   have c:=cI.cq (pv k ((pieces f.2).take j)) (hO k ((pieces f.2).getD j []));rw[show (pv k ((pieces f.2).take j)).length=j by simp;omega,show pv k ((pieces f.2).take j)++[hO k ((pieces f.2).getD j [])]=pv k ((pieces f.2).take (j+1)) by rw[bq x [],pv,pv,rm];rfl] at c
   refine aC a [(31,ab)] 200 rfl ?_ (AK.aQ (j+1) rfl ?_ ?_ ?_ ?_)
   .simp only[ag,b,v,o,bx,show i3.bytes=8 from rfl,ba,aF,aE];and_intros <;> omega
   .simp only[ag.cat,ag,b,aF,aE]
    and_intros <;> first|exactλ_ _=>rfl|exact c|rfl|omega
   .simp only[ag.cat,ag,b,aF,aE]
    and_intros <;> first|exactλ_ _=>rfl|exact c|rfl|omega
   .show j+1<=_;omega
   .omega
  .have n:j=(pieces f.2).length:=by omega
   rw[n,b7];have c:=cL.cq ls (yS k f);have p:ls.length+1=(ls++[yS k f]).length:=by simp
   have w:cL.enc (yS k f)=[C.str f.1,C.sl ae 1 (pieces f.2).length (cI.fn (pv k (pieces f.2)))]:=by
    show [C.str f.1,C.sl ae 1 (pv k (pieces f.2)).length (cI.fn (pv k (pieces f.2)))]=_
    grind
   rw[w,<-g] at c;rw[<-g] at p;refine aC a [(31,ae)] 200 rfl (by simp only[ag,bM];omega) (AK.leaveD rfl rfl ?_)
   refine aC a [] 200 rfl ?_ (AK.aQ (i+1) rfl ?_ ?_ ?_ ?_)
   .simp only[ag,bx,show i92.bytes=40 from rfl,aF,aE];and_intros <;> omega
   .simp[ag.cat,ag,aP.same]
   .simp only[ag.cat,ag,l,aF,aE]
    and_intros <;> first|exact aP.same|exact c|exact p|rfl
   .show i+1<=_;omega
   .omega
 .obtain rfl:i=t.length:=by omega
  rw[b7];refine aC a [(18,ae)] 200 rfl (by simp[ag]) (AK.leaveD rfl rfl ?_)
  refine aC a [] 200 rfl av ?_;refine AK.dE () [] rfl rfl rfl rfl rfl rfl rfl rfl ?_ rfl rfl rfl rfl (λj r=>absurd r (by simp))
  simp[ag,ag.cat,aP.same,kr]
def gq(f g:Nat->List C):cR 0 f g=g:=by funext i;simp[cR]
abbrev HJ(s:aZ):aV:=.cells 27 [.c (.sl ae 2 s.1.length (cP.fn s.1)),.c (.sl ae 2 s.2.1.length (cp.fn s.2.1)),.c (.sl ae 2 s.2.2.length (cH.fn s.2.2))]
abbrev Sj(s:aZ)(i:Nat)(p:List bw)(j:Nat)(q:List cy):List aV:=[HJ s,.cells 27 [dr,dr,dr],.buf 85 2 i (cP.fn p),.buf 64 2 j (cp.fn q),.buf 90 2 s.2.2.length (cH.fn s.2.2),.cells 27 [.bp 2 (.sl i 2 0 i),.bp 3 (.sl j 2 0 j),.bp 4 (.sl s.2.2.length 2 0 s.2.2.length)]]
def HO(s:aZ)(t:s.1.length<=4000000)(g:∀ p∈s.1,p.2.length<=4000000)(u:s.2.1.length<=4000000)(f:iT s)(r:s.2.2.length<=4000000) :
  Ev X 38 [eH s] [] (.e (.agg [.bp 0 (.sl s.1.length 2 0 s.1.length),.bp 1 (.sl s.2.1.length 2 0 s.2.1.length),.bp 2 (.sl s.2.2.length 2 0 s.2.2.length)])) [.buf 85 2 s.1.length (cP.fn s.1),.buf 64 2 s.2.1.length (cp.fn s.2.1),.buf 90 2 s.2.2.length (cH.fn s.2.2)]:=by
 refine Ev.iv tok Tryz.func38 rfl rfl rfl λn=>?_
 refine aX [(1000001,ab)] 200 rfl av ?_;refine AK.region ?_;refine aX [] 5 rfl av ?_;refine AK.wm 9 85 2 (cP.fn []) rfl ?_;refine AK.wm 10 64 2 (cp.fn []) rfl ?_;refine AK.wm 11 90 2 (cH.fn []) rfl ?_;refine dY rfl ?_ ?_
 .simp only[ag,show i90.bytes=16 from rfl,aF,aE];and_intros <;> omega
 refine AK.bP 6 (λi=>i<=s.1.length) (λi:Nat=>[(1,.e (.one (.ptr 0 0))),(2,.e (.one (.ptr 1 0))),(3,.e (.one (.ptr 5 0))),(4,dI i)]) (λi=>Sj s i (s.1.take i) 0 []) (λi=>s.1.length-i) 0 rfl ?_ rfl ?_ rfl (by omega) ?_
 .simp[ag.cat,ag]
 .simp[ag.cat,ag,aP,gq];rfl
 intro i hi
 by_cases h:i<s.1.length
 .have d:s.1.getD i (0,[])∈s.1:=by grind
  have a:s.1.getD (i:Int).toNat cP.bE=s.1.getD i (0,[]):=by rw[bA];rfl
  have q:=g _ d;refine aX [(20,ab),(2000038,ab)] 200 rfl ?_ (AK.aQ (i+1) rfl ?_ ?_ ?_ ?_)
  .simp only[ag,a,bx,show i85.bytes=32 from rfl,show i88.bytes=24 from rfl,ba,gi,aF,aE];and_intros <;> omega
  .simp[ag.cat,ag]
  .have e:=cP.gF s.1 h (0,[]);simp only[ag.cat,ag,a,gq,bt,aE,aF]
   and_intros <;> first|exactλ_ _=>rfl|exact e|rfl
  .show i+1<=_;omega
  .omega
 obtain rfl:i=s.1.length:=by omega
 rw[b7];refine aX [(20,ae)] 200 rfl (by simp[ag]) (AK.leaveD rfl rfl ?_)
 refine dY rfl av ?_;refine AK.bP 6 (λi=>i<=s.2.1.length) (λi:Nat=>[(1,.e (.one (.ptr 0 0))),(2,.e (.one (.ptr 1 0))),(3,.e (.one (.ptr 5 0))),(5,dI i)]) (λi=>Sj s s.1.length s.1 i (s.2.1.take i)) (λi=>s.2.1.length-i) 0 rfl ?_ rfl ?_ rfl (by omega) ?_
 .simp[ag.cat,ag]
 .simp[ag.cat,ag,aP.same,aP]
 intro i hi
 by_cases h:i<s.2.1.length
 .have d:s.2.1.getD i (0,[])∈s.2.1:=by grind
  have a:s.2.1.getD (i:Int).toNat cp.bE=s.2.1.getD i (0,[]):=by rw[bA];rfl
  have q:=f _ d;have e:=cp.gF s.2.1 h (0,[]);generalize s.2.1.getD i (0,[])=x at *;refine aX [(47,ab),(1000010,ab)] 200 rfl ?_ ?_
  .simp only[ag,a,ba,gi,aF,aE];and_intros <;> omega
  rw[a];refine AK.gm 6 1 92 2 (cL.fn []) rfl rfl ?_;refine dY rfl av ?_;refine AK.bP 8 (λj=>j<=x.2.length) (λj:Nat=>[(1,.e (.one (.ptr 0 0))),(2,.e (.one (.ptr 1 0))),(3,.e (.one (.ptr 5 0))),(5,dI i),(6,.e (.one (.ptr 6 0))),(7,dI j)]) (λj=>Sj s s.1.length s.1 i (s.2.1.take i)++[.cells 64 [.c (.int .i64 x.1),.vec 7 2 j (cL.fn (x.2.take j))],.vec 92 2 j (cL.fn (x.2.take j))]) (λj=>x.2.length-j) 0 rfl ?_ rfl ?_ rfl (by omega) ?_
  .simp[ag.cat,ag]
  .simp[ag.cat,ag,aP.same,aP]
  intro j k
  by_cases l:j<x.2.length
  .have b:x.2.getD (j:Int).toNat cL.bE=x.2.getD j ([],[]):=by rw[bA];rfl
   have o:=q.2 (x.2.getD j ([],[])) (by grind)
   have m:=cL.gF x.2 l ([],[]);refine aX [(66,ab),(2000085,ab)] 200 rfl ?_ (AK.aQ (j+1) rfl ?_ ?_ ?_ ?_)
   .simp only[ag,a,b,bx,show i92.bytes=40 from rfl,show i3.bytes=8 from rfl,ba,gi,aF,aE];and_intros <;> omega
   .simp[ag.cat,ag]
   .simp only[ag.cat,ag,a,b,gq,bt,aE,aF]
    and_intros <;> first|exactλ_ _=>rfl|exact m|rfl
   .show j+1<=_;omega
   .omega
  obtain rfl:j=x.2.length:=by omega
  rw[b7];refine aX [(66,ae)] 200 rfl ?_ (AK.leaveD rfl rfl ?_)
  .simp only[ag,a,bM];and_intros <;> omega
  refine dY rfl ?_ (AK.aQ (i+1) rfl ?_ ?_ ?_ ?_)
  .simp only[ag,a,bx,show i64.bytes=32 from rfl,aF,aE];and_intros <;> omega
  .simp[ag.cat,ag]
  .simp only[ag.cat,ag,aE,aF]
   and_intros <;> first|exactλ_ _=>rfl|exact e|rfl
  .show i+1<=_;omega
  .omega
 obtain rfl:i=s.2.1.length:=by omega
 rw[b7];refine aX [(47,ae)] 200 rfl (by simp[ag]) (AK.leaveD rfl rfl ?_)
 refine dY rfl av ?_;refine AK.dE () [2,3,4] rfl rfl rfl rfl rfl rfl rfl rfl ?_ rfl rfl rfl rfl (λj k=>absurd k (by simp))
 .simp[ag.cat,ag,aP.same]
def LB{o:aw}{k:an->D}{σ:List aV}{x y:an}{j:Array ar}{a b:Int} (m:Int)(h:o.op=.call { callee:=.builtin .max,args:=#[x,y],argTypes:=j })(q:k x=dI a)(l:k y=dI b)(p:max a b=m)(n:bx .i64 m):bH ah o k σ (dI m) σ:=by
 refine .quiet λs ρ r g=>?_
 have f:=g x;have c:=g y;rw[q] at f;rw[l] at c
 replace f:=fy f
 replace c:=fy c
 generalize d:ρ x=vx at f;generalize i:ρ y=vy at c;cases f;cases c;have e:(if a<b then b else a)=m:=by
  rw[<-p];split <;> omega
 exact⟨.int .i64 m,by simp[ay,h,resolve,invoke,builtin,d,i,Builtin.max_,Builtin.max2,e],.int n,by simp[ay,h,resolve,invoke,builtin,d,i,Builtin.max_,Builtin.max2]⟩
def iz(s:aZ):Int:=if s.1.length=0 then 1 else (s.1.getD (s.1.length-1) (0,[])).1+1
def pw(l:List (Int×Int)):Int:=l.foldl (λm h=>max m (h.2+1)) 1
def fE(s:aZ):Int:=if s.2.1.length=0 then pw s.2.2 else max (pw s.2.2) ((s.2.1.getD (s.2.1.length-1) (0,[])).1+1)
structure Sd (st:aZ):Prop where
 p:∀ x∈st.1,-4000000<=x.1/\x.1<=4000000
 s:∀ x∈st.2.1,-4000000<=x.1/\x.1<=4000000
 h:∀ x∈st.2.2,-4000000<=x.2/\x.2<=4000000
def sq(l:List (Int×Int))(h:∀ x∈l,-4000000<=x.2/\x.2<=4000000):1<=pw l/\pw l<=4000001:=by
 have:∀ (l:List (Int×Int)) (m:Int),(∀ x∈l,-4000000<=x.2/\x.2<=4000000)->1<=m->m<=4000001->1<=l.foldl (λm h=>max m (h.2+1)) m/\l.foldl (λm h=>max m (h.2+1)) m<=4000001:=by
  intro l
  induction l with
  |nil=>intro m _ a b;exact⟨a,b⟩
  |cons x r c =>
   grind
 exact this l 1 h (by omega) (by omega)
def ES{l:List (Int×Int)}{i:Nat}(h:i<l.length):pw (l.take (i+1))=max (pw (l.take i)) ((l.getD i (0,0)).2+1):=by
 unfold pw;rw[bq h (0,0),nJ];rfl
def gO{α:Type}{l:List α}{i:Nat}(h:i<l.length)(d:α):l.getD i d∈l:=by
 grind
def HL(s:aZ)(d:dL s)(b:Sd s):Ev X 182 [eH s] [] (.eK [.one (.c (.int .i64 (iz s))),.one (.c (.int .i64 (fE s)))]) []:=by
 refine Ev.bQ Tryz.func182 rfl λo=>?_
 have l:=d.p;have m:=d.sn;have g:=d.h
 apply AK.join [(1,.e (.one (.ptr 0 0))),(4,dI (iz s)),(5,dI 1)] [HJ s]
 .intro out
  by_cases h:s.1.length=0
  .refine aX [(10,ae),(1000005,ab)] 200 rfl (by simp only[ag,bM];omega) ?_
   exact out _ _ rfl (by simp[ag.cat,ag,iz,h])
  .have f:=b.p _ (gO (show s.1.length-1<s.1.length by omega) (0,[]))
   have a:s.1.getD ((s.1.length:Int)-1).toNat cP.bE=s.1.getD (s.1.length-1) (0,[]):=by rw[show ((s.1.length:Int)-1).toNat=s.1.length-1 by omega];rfl
   refine aX [(10,ab),(1000005,ab)] 200 rfl ?_ ?_
   .simp only[ag,a,bx,ba,aF,aE];and_intros <;> omega
   exact out _ _ rfl (by simp only[ag.cat,ag,iz,aY h,a,aF,aE])
 refine dY rfl av ?_;refine AK.bP 1 (λi=>i<=s.2.2.length) (λi:Nat=>[(1,.e (.one (.ptr 0 0))),(4,dI (iz s)),(5,dI (pw (s.2.2.take i))),(6,dI i)]) (λi=>[HJ s]) (λi=>s.2.2.length-i) 0 rfl ?_ rfl ?_ rfl (by omega) ?_
 .simp[ag.cat,ag,pw]
 .simp[ag.cat,ag,aP.same]
 intro i hi
 by_cases h:i<s.2.2.length
 .have f:=b.h _ (gO h (0,0));have j:=sq (s.2.2.take i) λx k=>b.h x (iK k)
  have a:s.2.2.getD (i:Int).toNat cH.bE=s.2.2.getD i (0,0):=by rw[bA];rfl
  have n:=ES h;refine aX [(25,ab)] 200 rfl ?_ ?_
  .simp only[ag,a,bx,ba,aF,aE];and_intros <;> omega
  rw[a];refine AK.law (LB (pw (s.2.2.take (i+1))) rfl rfl rfl n.symm (by simp only[bx];omega)) rfl rfl ?_
  refine dY rfl ?_ (AK.aQ (i+1) rfl ?_ ?_ ?_ ?_)
  .simp only[ag,bx];omega
  .simp[ag.cat,ag]
  .simp[ag.cat,ag,aP.same]
  .show i+1<=_;omega
  .omega
 obtain rfl:i=s.2.2.length:=by omega
 rw[b7];refine aX [(25,ae)] 200 rfl (by simp[ag]) (AK.leaveD rfl rfl ?_)
 have j:=sq s.2.2 b.h
 by_cases h:s.2.1.length=0
 .refine aX [(40,ae)] 200 rfl (by simp only[ag,bM];omega) (AK.bn rfl ?_)
  simp[ag.cat,ag,fE,h]
 .have f:=b.s _ (gO (show s.2.1.length-1<s.2.1.length by omega) (0,[]))
  have a:s.2.1.getD ((s.2.1.length:Int)-1).toNat cp.bE=s.2.1.getD (s.2.1.length-1) (0,[]):=by rw[show ((s.2.1.length:Int)-1).toNat=s.2.1.length-1 by omega];rfl
  refine aX [(40,ab)] 200 rfl ?_ ?_
  .simp only[ag,a,bx,ba,aF,aE];and_intros <;> omega
  rw[a];refine AK.law (LB (fE s) rfl rfl rfl (by rw[fE,aY h]) (by rw[fE,aY h];simp only[bx];omega)) rfl rfl ?_
  refine dY rfl av (AK.bn rfl ?_);simp[ag.cat,ag]
abbrev Sk(s:aZ)(i:Nat)(p:List bw)(j:Nat)(q:List cy):List aV:=[HJ s,.cells 27 [dr,dr,dr],.vec 90 2 s.2.2.length (cH.fn s.2.2),.cells 27 [.vec 4 2 i (cP.fn p),.vec 5 2 j (cp.fn q),.vec 2 2 s.2.2.length (cH.fn s.2.2)],.vec 85 2 i (cP.fn p),.vec 64 2 j (cp.fn q)]
def fx(s:aZ)(t:s.1.length<=4000000)(g:∀ p∈s.1,p.2.length<=4000000)(u:s.2.1.length<=4000000)(f:iT s)(r:s.2.2.length<=4000000) :
  Ev X 38 [eH s] [] (.e (.agg [.vec 0 2 s.1.length (cP.fn s.1),.vec 1 2 s.2.1.length (cp.fn s.2.1),.vec 2 2 s.2.2.length (cH.fn s.2.2)])) [.vec 85 2 s.1.length (cP.fn s.1),.vec 64 2 s.2.1.length (cp.fn s.2.1),.vec 90 2 s.2.2.length (cH.fn s.2.2)]:=by
 refine Ev.iv tok Tryz.func38 rfl rfl rfl λn=>?_
 refine aX [(1000002,ab)] 200 rfl ?_ ?_
 .simp only[ag,show i90.bytes=16 from rfl,aF,aE,gi];and_intros <;> omega
 refine AK.gm 3 0 85 2 (cP.fn []) rfl rfl ?_;refine AK.gm 3 1 64 2 (cp.fn []) rfl rfl ?_;refine dY rfl av ?_;refine AK.bP 6 (λi=>i<=s.1.length) (λi:Nat=>[(1,.e (.one (.ptr 0 0))),(2,.e (.one (.ptr 1 0))),(3,.e (.one (.ptr 3 0))),(4,dI i)]) (λi=>Sk s i (s.1.take i) 0 []) (λi=>s.1.length-i) 0 rfl ?_ rfl ?_ rfl (by omega) ?_
 .simp[ag.cat,ag]
 .simp[ag.cat,ag,aP,gq]
 intro i hi
 by_cases h:i<s.1.length
 .have d:s.1.getD i (0,[])∈s.1:=by grind
  have a:s.1.getD (i:Int).toNat cP.bE=s.1.getD i (0,[]):=by rw[bA];rfl
  have q:=g _ d;refine aX [(20,ab),(2000038,ab)] 200 rfl ?_ (AK.aQ (i+1) rfl ?_ ?_ ?_ ?_)
  .simp only[ag,a,bx,show i85.bytes=32 from rfl,show i88.bytes=24 from rfl,ba,gi,aF,aE];and_intros <;> omega
  .simp[ag.cat,ag]
  .have e:=cP.gF s.1 h (0,[]);simp only[ag.cat,ag,a,gq,bt,aE,aF]
   and_intros <;> first|exactλ_ _=>rfl|exact e|rfl|omega
  .show i+1<=_;omega
  .omega
 obtain rfl:i=s.1.length:=by omega
 rw[b7];refine aX [(20,ae)] 200 rfl (by simp[ag]) (AK.leaveD rfl rfl ?_)
 refine dY rfl av ?_;refine AK.bP 6 (λi=>i<=s.2.1.length) (λi:Nat=>[(1,.e (.one (.ptr 0 0))),(2,.e (.one (.ptr 1 0))),(3,.e (.one (.ptr 3 0))),(5,dI i)]) (λi=>Sk s s.1.length s.1 i (s.2.1.take i)) (λi=>s.2.1.length-i) 0 rfl ?_ rfl ?_ rfl (by omega) ?_
 .simp[ag.cat,ag]
 .simp[ag.cat,ag,aP.same,aP]
 intro i hi
 by_cases h:i<s.2.1.length
 .have d:s.2.1.getD i (0,[])∈s.2.1:=by grind
  have a:s.2.1.getD (i:Int).toNat cp.bE=s.2.1.getD i (0,[]):=by rw[bA];rfl
  have q:=f _ d;have e:=cp.gF s.2.1 h (0,[]);generalize s.2.1.getD i (0,[])=x at *;refine aX [(47,ab),(1000010,ab)] 200 rfl ?_ ?_
  .simp only[ag,a,ba,gi,aF,aE];and_intros <;> omega
  rw[a];refine AK.gm 6 1 92 2 (cL.fn []) rfl rfl ?_;refine dY rfl av ?_;refine AK.bP 8 (λj=>j<=x.2.length) (λj:Nat=>[(1,.e (.one (.ptr 0 0))),(2,.e (.one (.ptr 1 0))),(3,.e (.one (.ptr 3 0))),(5,dI i),(6,.e (.one (.ptr 6 0))),(7,dI j)]) (λj=>Sk s s.1.length s.1 i (s.2.1.take i)++[.cells 64 [.c (.int .i64 x.1),.vec 7 2 j (cL.fn (x.2.take j))],.vec 92 2 j (cL.fn (x.2.take j))]) (λj=>x.2.length-j) 0 rfl ?_ rfl ?_ rfl (by omega) ?_
  .simp[ag.cat,ag]
  .simp[ag.cat,ag,aP.same,aP]
  intro j k
  by_cases l:j<x.2.length
  .have b:x.2.getD (j:Int).toNat cL.bE=x.2.getD j ([],[]):=by rw[bA];rfl
   have o:=q.2 (x.2.getD j ([],[])) (by grind)
   have m:=cL.gF x.2 l ([],[]);refine aX [(66,ab),(2000085,ab)] 200 rfl ?_ (AK.aQ (j+1) rfl ?_ ?_ ?_ ?_)
   .simp only[ag,a,b,bx,show i92.bytes=40 from rfl,show i3.bytes=8 from rfl,ba,gi,aF,aE];and_intros <;> omega
   .simp[ag.cat,ag]
   .simp only[ag.cat,ag,a,b,gq,bt,aE,aF]
    and_intros <;> first|exactλ_ _=>rfl|exact m|rfl
   .show j+1<=_;omega
   .omega
  obtain rfl:j=x.2.length:=by omega
  rw[b7];refine aX [(66,ae)] 200 rfl ?_ (AK.leaveD rfl rfl ?_)
  .simp only[ag,a,bM];and_intros <;> omega
  refine dY rfl ?_ (AK.aQ (i+1) rfl ?_ ?_ ?_ ?_)
  .simp only[ag,a,bx,show i64.bytes=32 from rfl,aF,aE];and_intros <;> omega
  .simp[ag.cat,ag]
  .simp only[ag.cat,ag,aE,aF]
   and_intros <;> first|exactλ_ _=>rfl|exact e|rfl|omega
  .show i+1<=_;omega
  .omega
 obtain rfl:i=s.2.1.length:=by omega
 rw[b7];refine aX [(47,ae)] 200 rfl (by simp[ag]) (AK.leaveD rfl rfl ?_)
 refine dY rfl av ?_;refine AK.dE () [4,5,2] rfl rfl rfl rfl rfl rfl rfl rfl ?_ rfl rfl rfl rfl (λj k=>absurd k (by simp))
 .simp[ag.cat,ag,aP.same]
def _root_.Go.AM.hY.yG{α:Type}(c:hY α)(l:List α){n:Nat}{es:Nat->List C}(a:aP n es (c.fn l))(hn:n<=l.length):c.list n es=l.take n:=by
 apply pI
 .simp[hY.list];omega
 .intro i h1 h2;have hi:i<n:=by grind
  simp[hY.list,a i hi,hY.fn,sQ,ai,br (show i<l.length by omega),c.inv]
def _root_.Go.AM.hY.Gq{α:Type}(c:hY α)(l:List α){n:Nat}{es:Nat->List C}(a:aP n es (c.fn l)):c.fits n es:=λi hi=>by
 rw[a i hi];exact c.aH l i (Nat.lt_succ_self i)
def Ln(a b:Nat):min (a:Int) (b:Int)=((min a b:Nat):Int):=by
 grind
def gV(k:Int):Nat->Int->List Bs->List bw
 |0,_,_=>[]
 |f+1,no,ps=>if 0<ps.length then kT no k (ps.take 4)::gV k f (no+1) (ps.drop 4) else []
def yH(k:Int)(s:aZ)(t:List bC):List bw:=gV k (jU k t (indexOf s.1)).length (iz s) (jU k t (indexOf s.1))
def j0(k:Int)(s:aZ)(t:List bC):Bool:=decide (20<s.1.length+(yH k s t).length)||(decide (99<iz s+(yH k s t).length-1)||(decide (20<fE s)||decide (9<=s.2.2.length)))
def nu(k:Int)(s:aZ) (by_:Int)(t:List bC):aZ:=(s.1++yH k s t,s.2.1++[kr (fE s) k t],s.2.2++[(by_,fE s)])
theorem wQ(k:Int):∀ f no ps,(gV k f no ps).length<=f
 |0,_,_=>bg _
 |f+1,no,ps=>by
  simp only[gV];split
  .have:=wQ k f (no+1) (ps.drop 4);grind
  .simp
abbrev Lo:dk:=Dw aI aI (aL cS) (λno k ps=>xQ (kT no k ps)) λ_ k ps=>[ck k=ab,∀ p∈ps,bG p=ab,ps.length<=4000000]
def Sb:dM X 185 Lo:=.I8 λno k ps h=>Lp no k ps h.1 h.2.1 h.2.2
abbrev Qj:dk:=Dw aI aI (aL cF) (λno k t=>Ez (kr no k t)) λ_ k t=>[ck k=ab,wR t]
def U5:dM X 186 Qj:=.I8 λno k t h=>ON no k t h.1 h.2
abbrev Lq:dk:=Dw aI (aL cF) (aL oL) (λk t l=>cS.sl (jU k t l)) λk t l=>[ck k=ab,wR t,l.length<=4000000]
def Sc:dM X 183 Lq:=.I8 λk t l h=>Lr k t l h.1 h.2.1 h.2.2
def wS{k:Int}{t:List bC}{l:List dm}(c:wR t):(∀ p∈jU k t l,bG p=ab)/\(jU k t l).length<=100000:=by
 constructor
 .have:∀ (ps a:List Bs),(∀ p∈ps,bG p=ab)->(∀ p∈a,bG p=ab)->∀ p∈ps.foldl (nv k l) a,bG p=ab:=by
   intro ps
   induction ps with
   |nil=>grind
   |cons q r h =>
    intro a e g;refine h _ (λp b=>e p (uR _ b)) λp b=>?_
    unfold nv at b
    grind
  refine this _ [] (λp b=>?_) (by simp)
  obtain⟨f,d,b⟩:=pH.1 b;exact tv (c.AJ f d).1 p b
 .have:=yI k l (kt t) [];have g:=c.all;unfold jU;simp only[ib] at this;exact eL this (by omega)
def Ct{l:List bw}(h:(fG l).length<=100000):(indexOf l).length<=100000:=by
 unfold indexOf
 grind [yJ]
abbrev Yo(k by_ no:Int)(s:aZ)(t:List bC)(rest:List Bs):Fr:=[(0,dI k),(2,dI by_),(3,cF.sl t),(5,.e (.one (.ptr 0 0))),(8,.e (.one (.ptr 1 0))),(10,.e (.one (.ptr 5 0))),(11,dI no),(12,dI (fE s)),(13,cS.sl rest)]
abbrev U6(s:aZ)(ps:List bw):List aV:=[HJ s,.cells 27 [dr,dr,dr],.vec 85 2 ps.length (cP.fn ps),.vec 64 2 s.2.1.length (cp.fn s.2.1),.vec 90 2 s.2.2.length (cH.fn s.2.2),.cells 27 [.vec 2 2 ps.length (cP.fn ps),.vec 3 2 s.2.1.length (cp.fn s.2.1),.vec 4 2 s.2.2.length (cH.fn s.2.2)]]
abbrev tSt(s:aZ)(b:Bool):D:=.eK [.agg [.c (.sl ae 2 s.1.length (cP.fn s.1)),.c (.sl ae 2 s.2.1.length (cp.fn s.2.1)),.c (.sl ae 2 s.2.2.length (cH.fn s.2.2))],.one (.c (.bool b))]
def HK(k:Int)(s:aZ) (by_:Int)(t:List bC)(m:ck k=ab)(a:dL s)(d:Sd s)(g:wR t)(r:(fG s.1).length<=100000) :
  Ev X 155 [dI k,eH s,dI by_,cF.sl t] [] (tSt (if j0 k s t=ab then s else nu k s by_ t) (!j0 k s t)) []:=by
 refine Ev.ga Tryz.func155 rfl rfl rfl λP=>?_
 have c:bD X [(184,Ls),(183,Lq),(185,Lo),(186,Qj)]:=.cons Se (.cons Sc (.cons Sb (.cons U5 .nil)));have Q:=a.p;have O:=a.sn;have M:=a.h;have K:=Ct r;refine aC c [] 200 rfl av ?_;refine AK.cQ (fx s a.p a.p2 a.sn a.s2 a.h) [] rfl ?_;refine aC c [] 200 rfl av ?_;refine AK.cQ (HL s a d) [] rfl ?_;refine aC c [] 200 rfl ?_ ?_
 .simp only[ag,cP.list_fn,oL.list_fn,cF.list_fn,m,g]
  and_intros <;> first|exact cP.aH _|exact oL.aH _|exact cF.aH _|trivial|exact g|omega
 simp only[cP.list_fn,oL.list_fn,cF.list_fn];obtain⟨j,G⟩:=wS (k:=k) (l:=indexOf s.1) g;have N:yH k s t=gV k (jU k t (indexOf s.1)).length (iz s) (jU k t (indexOf s.1)):=rfl;generalize jU k t (indexOf s.1)=pc at *;generalize w:yH k s t=np at *;have C:-4000000<=iz s/\iz s<=4000001:=by
  unfold iz;split
  .omega
  .rename_i h
   have:=d.p _ (gO (show s.1.length-1<s.1.length by omega) (0,[]))
   omega
 have E:np.length<=100000:=by grind [wQ]
 refine AK.kQ (S2:=Unit) 0 rfl rfl (λ_=>True) (λ_=>[(0,dI k),(2,dI by_),(3,cF.sl t),(5,.e (.one (.ptr 0 0))),(8,.e (.one (.ptr 1 0))),(10,.e (.one (.ptr 5 0))),(11,dI (iz s+np.length)),(12,dI (fE s))]) (λ_=>U6 s (s.1++np)) 6
  (λx:List Bs×List bw=>(∀ p∈x.1,bG p=ab)/\x.2.length+x.1.length<=5000000/\s.1.length<=x.2.length/\∃ f,x.1.length<=f/\s.1++np=x.2++gV k f (iz s+(x.2.length-s.1.length:Nat)) x.1) (λx=>Yo k by_ (iz s+(x.2.length-s.1.length:Nat)) s t x.1) (λx=>U6 s x.2) (λx=>x.1.length) (pc,s.1) rfl ?_ rfl ?_ rfl ⟨j,by grind,bg _,pc.length,bg _,by grind⟩ ?_ ?_
 .simp[ag.cat,ag,aP.same]
 .simp[ag.cat,ag,aP.same]
 .rintro out ⟨rest,ps⟩ ⟨n,g2,g3,f,g4,g5⟩;simp only at n g2 g3 g4 g5
  by_cases h:0<rest.length
  .obtain⟨f,rfl⟩:∃ B,f=B+1:=⟨f-1,by omega⟩
   simp only[gV,bd h] at g5;have D:bx .i64 ((min rest.length 4:Nat):Int):=by simp only[bx];omega
   refine aC c [(30,ab)] 200 rfl (by simp only[ag,ba];omega) ?_
   refine AK.law (Aq ((min rest.length 4:Nat):Int) rfl rfl rfl (Ln rest.length 4) D) rfl rfl ?_;have v:cS.list (cv rest.length (aa ((min rest.length 4:Nat):Int))-cv 0 af) (jL (cv 0 af) (cS.fn rest))=rest.take 4:=by
    have u:cv rest.length (aa ((min rest.length 4:Nat):Int))-cv 0 af=min rest.length 4:=by simp[cv]
    rw[u,cS.yG rest (λi hi=>by simp[jL,cv]) (by omega)]
    grind
   have A:cS.fits (cv rest.length (aa ((min rest.length 4:Nat):Int))-cv 0 af) (jL (cv 0 af) (cS.fn rest)):=cS.Gq rest (λi hi=>by simp[jL,cv])
   have F:aP (rest.length-min rest.length 4) (jL (min rest.length 4) (cS.fn rest)) (cS.fn (rest.drop 4)):=by
    intro i hi;have y:min rest.length 4=4:=by omega
    rw[y];simp only[jL,hY.fn,sQ,ai,nH]
   have q:∀ p∈rest.take 4,bG p=ab:=λp o=>n p (iK o)
   have J:=cP.cq ps (kT (iz s+(ps.length-s.1.length:Nat)) k (rest.take 4));refine aC c [] 200 rfl ?_ (AK.aQ (rest.drop 4,ps++[kT (iz s+(ps.length-s.1.length:Nat)) k (rest.take 4)]) rfl ?_ ?_ ?_ ?_)
   .simp only[ag,bx,v,m,A,List.length_take,show i85.bytes=32 from rfl,aF,aE]
    and_intros <;> first|exact q|omega
   .simp only[ag.cat,ag,bR,fa,ib,me,cv,bA,aF,aE]
    and_intros <;> first|rfl|omega|exactλ_ _=>rfl|exact F
   .simp only[ag.cat,ag,v,bR,fa,ib,aF,aE]
    and_intros <;> first|rfl|exactλ_ _=>rfl|exact J|omega
   .refine⟨λp o=>n p (List.mem_of_mem_drop o),by grind,by grind,f,by grind,?_⟩
    grind
   grind
  .have e:ps=s.1++np:=by
    rw[g5];cases f <;> simp[gV,h]
   refine aC c [(30,ae)] 200 rfl (by simp only[ag,bM];omega) (AK.leaveD rfl rfl ?_)
   refine out () av rfl ?_ rfl ?_
   .simp only[ag.cat,ag,e,bR,aF,aE]
    and_intros <;> first|rfl|omega|exactλ_ _=>rfl
   .simp[ag.cat,ag,aP.same,e]
 rintro⟨⟩ -;have z:j0 k s t=(decide (20<s.1.length+np.length)||(decide (99<iz s+np.length-1)||(decide (20<fE s)||decide (9<=s.2.2.length)))):=by unfold j0;rw[w]
 have H:-4000000<=fE s/\fE s<=4000001:=by
  have:=sq s.2.2 d.h;unfold fE;split
  .omega
  .rename_i h
   have:=d.s _ (gO (show s.2.1.length-1<s.2.1.length by omega) (0,[]))
   omega
 have I:(s.1++np).length=s.1.length+np.length:=bR
 by_cases c1:20<s.1.length+np.length
 .have b:j0 k s t=ab:=by grind
  rw[b];refine aC c [(53,ab)] 200 rfl ?_ ?_
  .simp only[ag,bR,bx,ba,bM,aF,aE];grind
  refine AK.cQ (fx s a.p a.p2 a.sn a.s2 a.h) [] rfl ?_;refine aC c [] 200 rfl av ?_;refine AK.freeze 8 1 rfl rfl rfl ?_;refine AK.iR tok [] rfl ?_ rfl rfl rfl fO;simp[ag.cat,ag,aP.same]
 by_cases c2:99<iz s+np.length-1
 .have b:j0 k s t=ab:=by grind
  rw[b];refine aC c [(53,ae),(57,ab)] 200 rfl ?_ ?_
  .simp only[ag,bR,bx,ba,bM,aF,aE];and_intros <;> omega
  refine AK.cQ (fx s a.p a.p2 a.sn a.s2 a.h) [] rfl ?_;refine aC c [] 200 rfl av ?_;refine AK.freeze 8 1 rfl rfl rfl ?_;refine AK.iR tok [] rfl ?_ rfl rfl rfl fO;simp[ag.cat,ag,aP.same]
 by_cases c3:20<fE s
 .have b:j0 k s t=ab:=by grind
  rw[b];refine aC c [(53,ae),(57,ae),(61,ab)] 200 rfl ?_ ?_
  .simp only[ag,bR,bx,ba,bM,aF,aE];and_intros <;> omega
  refine AK.cQ (fx s a.p a.p2 a.sn a.s2 a.h) [] rfl ?_;refine aC c [] 200 rfl av ?_;refine AK.freeze 8 1 rfl rfl rfl ?_;refine AK.iR tok [] rfl ?_ rfl rfl rfl fO;simp[ag.cat,ag,aP.same]
 by_cases c4:9<=s.2.2.length
 .have b:j0 k s t=ab:=by grind
  rw[b];refine aC c [(53,ae),(57,ae),(61,ae),(67,ab)] 200 rfl ?_ ?_
  .simp only[ag,bR,bx,ba,bM,aF,aE];and_intros <;> omega
  refine AK.cQ (fx s a.p a.p2 a.sn a.s2 a.h) [] rfl ?_;refine aC c [] 200 rfl av ?_;refine AK.freeze 8 1 rfl rfl rfl ?_;refine AK.iR tok [] rfl ?_ rfl rfl rfl fO;simp[ag.cat,ag,aP.same]
 have b:j0 k s t=ae:=by grind
 rw[b];have u:=cp.cq s.2.1 (kr (fE s) k t);have L:=cH.cq s.2.2 (by_,fE s);refine aC c [(53,ae),(57,ae),(61,ae),(67,ae)] 200 rfl ?_ ?_
 .simp only[ag,m,cF.list_fn,bR,bx,show i64.bytes=32 from rfl,show i90.bytes=16 from rfl,ba,bM,aF,aE]
  and_intros <;> first|exact g|exact cF.aH _|rfl|omega
 refine AK.freeze 8 1 rfl rfl rfl ?_;refine AK.iR tok [] rfl ?_ rfl rfl rfl fO;simp only[ag.cat,ag,cF.list_fn,nu,w,bR,fa,ib,aF,aE]
 and_intros <;> first|rfl|exactλ_ _=>rfl|exact u|exact L|simp
end
def uq{t:List bC}(h:dq t=ab):wR t:=by
 obtain⟨i,_,_,n⟩:=uo.1 h;have k:∀ f∈t,b8 f.2=ab/\f.2.length<=40:=λf d=>by
  have:=(i f d).2;simp only[dZ,bL,ba] at this
  grind
 refine⟨by omega,λf d=>⟨(k f d).1,by grind⟩,?_⟩
 have:∀ l:List bC,(∀ f∈l,f.2.length<=40)->(kt l).length<=40*l.length:=by
  intro l
  induction l with
  |nil=>intro _;simp[kt]
  |cons f r m =>
   intro e;have a:=m λg j=>e g (uR _ j)
   have b:=e f List.mem_cons_self;have c:=oe f.2;simp only[kt,List.flatMap_cons,bR,fa] at a ⊢;omega
 grind
def L9(no k:Int)(ps:List Bs):(kT no k ps).2.length=ps.length:=Gr k ps
def A3{l:List cy}:∀ (a:Int),l.Pairwise (λa b=>a.1<b.1)->(∀ x∈l,a<=x.1/\x.1<=20)->(l.length:Int)<=max 0 (21-a):=by
 induction l with
 |nil=>grind
 |cons x r g =>
  intro a f c;obtain⟨h,e⟩:=List.pairwise_cons.1 f;have i:=c x List.mem_cons_self;have:=g (x.1+1) e λy d=>⟨by grind,(c y (uR _ d)).2⟩
  grind
def y5(k:Int):∀ (f:Nat) (no:Int)(ps:List Bs),(∀ q∈ps,bG q=ab)->∀ x∈gV k f no ps,∃ a c,no<=a/\a<no+(gV k f no ps).length/\0<c.length/\c.length<=4/\(∀ q∈c,bG q=ab)/\x=kT a k c
 |0,_,_,_,x,b=>by simp[gV] at b
 |f+1,no,ps,e,x,b=>by
  simp only[gV] at b ⊢;split at b
  .rename_i h
   rw[bd h];rcases fb.1 b with rfl|b
   .grind
   .obtain⟨a,c,j,i,g⟩:=y5 k f (no+1) (ps.drop 4) (λq d=>e q (List.mem_of_mem_drop d)) x b
    grind
  grind
def Iu{α:Type}{l:List α}(h:l.length≠0)(d:α):l.getD (l.length-1) d∈l:=gO (by omega) d
def tF(k:Int):∀ (f:Nat) (no:Int)(ps:List Bs),∀ x∈gV k f no ps,no<=x.1
 |0,_,_,x,a=>by simp[gV] at a
 |f+1,no,ps,x,a=>by
  simp only[gV] at a;split at a
  .rcases fb.1 a with rfl|a
   .exact Int.le_refl _
   .have:=tF k f (no+1) (ps.drop 4) x a;omega
  grind
def xi(k:Int):∀ (f:Nat) (no:Int)(ps:List Bs),(gV k f no ps).Pairwise λa b=>a.1<b.1
 |0,_,_=>by simp[gV]
 |f+1,no,ps=>by
  simp only[gV];split
  .refine List.pairwise_cons.2 ⟨λx c=>?_,xi k f (no+1) (ps.drop 4)⟩
   have:=tF k f (no+1) (ps.drop 4) x c;show no<x.1;omega
  .simp
section
open Go.Proofs
variable {X:Cx ah}
def w8{α:Type}{q:α->Bool}{l:List α}(h:l.any q=ab):0<=oM q l:=by
 unfold oM
 grind
theorem w9{α:Type}{q:α->Bool}{l:List α}(h:l.any q=ae):oM q l=-1:=by
 unfold oM
 grind
def LG(l:List (Int×Int))(b:Nat)(q:Int×Int->Bool)(n:∀ x,x∈l->Ev X b [.e (.agg [.c (.int .i64 x.1),.c (.int .i64 x.2)])] [] (dB (q x)) []) :
  Ev X 91 [cH.sl l,.e (.one (.c (.fn (.func b) [] [])))] [] (dI (oM q l)) []:=by
 refine Ev.bQ Tryz.func91 rfl λg=>?_
 have d:=g.sl 0 rfl;refine bk rfl av ?_;refine AK.jP (λi=>i<=l.length/\∀ j,j<i->q (l.getD j (0,0))=ae) (λi:Nat=>[(0,cH.sl l),(1,.e (.one (.c (.fn (.func b) [] [])))),(7,dI l.length),(8,dI i)]) (λ_=>[]) (λi=>l.length-i) 0 rfl ?_ rfl av ⟨by omega,by omega⟩ ?_
 .simp[ag.cat,ag,aP.same]
 rintro i ⟨hi,a⟩
 by_cases h:i<l.length
 .have m:l.getD i (0,0)∈l:=by grind
  have f:l.getD (i:Int).toNat cH.bE=l.getD i (0,0):=by grind
  refine aX [(9,ab)] 100 rfl ?_ ?_
  .simp only[ag]
   grind
  rw[f];refine AK.cQ (n _ m) [] rfl ?_;cases k:q (l.getD i (0,0)) with
  |true =>
   refine aX [(16,ab)] 100 rfl ?_ (AK.gK (b6.zero rfl ?_))
   .simp[ag]
   .simp[ag,qa h k a]
  |false =>
   refine aX [(16,ae)] 100 rfl ?_ (AK.fW (i+1) rfl ?_ rfl av ?_ ?_)
   .simp[ag,bx];omega
   .simp[ag.cat,ag,aP.same]
   .grind
   .omega
 .refine aX [(9,ae)] 100 rfl (by simp[ag];omega) (AK.leave rfl rfl ?_)
  refine bk rfl av (AK.bn rfl ?_);simp[ag,lN (λj o=>a j (by omega))]
def LH(l:List (Int×Int))(a:Nat)(q:Int×Int->Bool)(b:∀ x,x∈l->Ev X a [.e (.agg [.c (.int .i64 x.1),.c (.int .i64 x.2)])] [] (dB (q x)) []) :
  Ev X 49 [cH.sl l,.e (.one (.c (.fn (.func a) [] [])))] [] (dB (l.any q)) []:=by
 refine Ev.bQ Tryz.func49 rfl λd=>?_
 refine bk rfl av ?_;refine AK.cQ (LG l a q b) [] rfl ?_;cases h:l.any q with
 |true =>
  refine aX [(8,ab)] 100 rfl (cn (w8 h)) (AK.bn rfl ?_);simp[ag]
 |false =>
  refine aX [(8,ae)] 100 rfl (eC (by grind [w9])) (AK.bn rfl ?_)
  simp[ag]
def LI(l:List (bw))(b:Nat)(cs:List C)(q:bw->Bool)(n:∀ x,x∈l->Ev X b [xQ x,.e (.one (.c (.rp cs)))] [] (dB (q x)) []) :
  Ev X 110 [cP.sl l,.e (.one (.c (.fn (.func b) [] [.rp cs])))] [] (dI (oM q l)) []:=by
 refine Ev.bQ Tryz.func110 rfl λg=>?_
 have d:=g.sl 0 rfl;refine bk rfl av ?_;refine AK.jP (λi=>i<=l.length/\∀ j,j<i->q (l.getD j (0,[]))=ae) (λi:Nat=>[(0,cP.sl l),(1,.e (.one (.c (.fn (.func b) [] [.rp cs])))),(7,dI l.length),(8,dI i)]) (λ_=>[]) (λi=>l.length-i) 0 rfl ?_ rfl av ⟨by omega,by omega⟩ ?_
 .simp[ag.cat,ag,aP.same]
 rintro i ⟨hi,a⟩
 by_cases h:i<l.length
 .have m:l.getD i (0,[])∈l:=by grind
  have f:l.getD (i:Int).toNat cP.bE=l.getD i (0,[]):=by grind
  refine aX [(9,ab)] 100 rfl ?_ ?_
  .simp only[ag]
   grind
  rw[f];refine AK.cQ (n _ m) [] rfl ?_;cases k:q (l.getD i (0,[])) with
  |true =>
   refine aX [(16,ab)] 100 rfl ?_ (AK.gK (b6.zero rfl ?_))
   .simp[ag]
   .simp[ag,qa h k a]
  |false =>
   refine aX [(16,ae)] 100 rfl ?_ (AK.fW (i+1) rfl ?_ rfl av ?_ ?_)
   .simp[ag,bx];omega
   .simp[ag.cat,ag,aP.same]
   .grind
   .omega
 .refine aX [(9,ae)] 100 rfl (by simp[ag];omega) (AK.leave rfl rfl ?_)
  refine bk rfl av (AK.bn rfl ?_);simp[ag,lN (λj o=>a j (by omega))]
def LJ(l:List (bw))(a:Nat)(cs:List C)(q:bw->Bool)(b:∀ x,x∈l->Ev X a [xQ x,.e (.one (.c (.rp cs)))] [] (dB (q x)) []) :
  Ev X 70 [cP.sl l,.e (.one (.c (.fn (.func a) [] [.rp cs])))] [] (dB (l.any q)) []:=by
 refine Ev.bQ Tryz.func70 rfl λd=>?_
 refine bk rfl av ?_;refine AK.cQ (LI l a cs q b) [] rfl ?_;cases h:l.any q with
 |true =>
  refine aX [(8,ab)] 100 rfl (cn (w8 h)) (AK.bn rfl ?_);simp[ag]
 |false =>
  refine aX [(8,ae)] 100 rfl (eC (by grind [w9])) (AK.bn rfl ?_)
  simp[ag]
def LK(l:List (Int))(b:Nat)(cs:List C)(H:ak->(Nat->Option Obj)->Prop)(q:Int->Bool)(n:∀ x,x∈l->Ev X b [dI x,.e (.one (.c (.rp cs)))] [.dD H] (dB (q x)) [.dD H]) :
  Ev X 108 [cI.sl l,.e (.one (.c (.fn (.func b) [] [.rp cs])))] [.dD H] (dI (oM q l)) [.dD H]:=by
 refine Ev.bQ Tryz.func108 rfl λg=>?_
 have d:=g.sl 0 rfl;refine bk rfl av ?_;refine AK.bP 1 (λi=>i<=l.length/\∀ j,j<i->q (l.getD j 0)=ae) (λi:Nat=>[(0,cI.sl l),(1,.e (.one (.c (.fn (.func b) [] [.rp cs])))),(7,dI l.length),(8,dI i)]) (λ_=>[.dD H]) (λi=>l.length-i) 0 rfl ?_ rfl ?_ rfl ⟨by omega,by omega⟩ ?_
 .simp[ag.cat,ag,aP.same]
 .simp[ag.cat,ag,aP.same]
 rintro i ⟨hi,a⟩
 by_cases h:i<l.length
 .have m:l.getD i 0∈l:=by grind
  have f:l.getD (i:Int).toNat cI.bE=l.getD i 0:=by grind
  refine aX [(9,ab)] 100 rfl ?_ ?_
  .simp only[ag]
   grind
  rw[f];refine AK.cQ (n _ m) [0] rfl ?_;cases k:q (l.getD i 0) with
  |true =>
   refine aX [(16,ab)] 100 rfl ?_ (AK.eh (b6.mk [0] rfl ?_ rfl rfl rfl l5))
   .simp[ag]
   .simp[ag,qa h k a]
  |false =>
   refine aX [(16,ae)] 100 rfl ?_ (AK.aQ (i+1) rfl ?_ ?_ ?_ ?_)
   .simp[ag,bx];omega
   .simp[ag.cat,ag,aP.same]
   .simp[ag.cat,ag,aP.same]
   .grind
   .omega
 .refine aX [(9,ae)] 100 rfl (by simp[ag];omega) (AK.leaveD rfl rfl ?_)
  refine bk rfl av (AK.dJ [0] rfl ?_ rfl rfl rfl l5);simp[ag,lN (λj o=>a j (by omega))]
def LL(l:List (Int))(a:Nat)(cs:List C)(H:ak->(Nat->Option Obj)->Prop)(q:Int->Bool)(b:∀ x,x∈l->Ev X a [dI x,.e (.one (.c (.rp cs)))] [.dD H] (dB (q x)) [.dD H]) :
  Ev X 67 [cI.sl l,.e (.one (.c (.fn (.func a) [] [.rp cs])))] [.dD H] (dB (l.any q)) [.dD H]:=by
 refine Ev.bQ Tryz.func67 rfl λd=>?_
 refine bk rfl av ?_;refine AK.cQ (LK l a cs H q b) [0] rfl ?_;cases h:l.any q with
 |true =>
  refine aX [(8,ab)] 100 rfl (cn (w8 h)) (AK.dJ [0] rfl ?_ rfl rfl rfl l5);simp[ag]
 |false =>
  refine aX [(8,ae)] 100 rfl (eC (by grind [w9])) (AK.dJ [0] rfl ?_ rfl rfl rfl l5)
  simp[ag]
def wU:∀ j,j<1->([0]:List Nat)[j]?=aa j:=λj a=>by
 have:j=0:=by omega
 subst this;rfl
set_option maxRecDepth 20000 in
def Mi(m:Nat)(b:Nat->Int)(h:Bytes b)(k:Nat)(d:k<=4000000)(g:m<=1048576)(l:List Bs)(i:1<=l.length/\l.length<=1000) :
  cM (ι:={ p:Bs // p∈l }) X 101 [.e (.one (.ptr 0 0)),cS.sl l] [lx m b k] (λp=>dS p.1) (λ_=>[lx m b (k+1)]):=by
 refine cM.oy Tryz.func101 rfl rfl rfl λf=>?_
 refine bk rfl av ?_;refine AK.cP (eu m b h k l.length d g (by omega)) [0] rfl (λ_=>rfl) ?_
 rintro⟨v,v0,v1⟩;refine bk rfl ?_ ?_
 .simp[ag];omega
 have a:l.getD v.toNat cS.bE∈l:=by
  have c:v.toNat<l.length:=by omega
  rw[ai,br c];exact nG c
 refine AK.lh ⟨l.getD v.toNat cS.bE,a⟩ (AK.dJ [0] rfl ?_ rfl rfl rfl wU);simp[ag]
def Mj:List Bs:=[[],[102],[97,47],[97,98],[97,47,98,47,99],[47,97]]
def Mk:List Bs:=[[97],[98],[99,47,97],[99,47,98],[100,47,97],[101],[97,47,98],[100]]
set_option maxRecDepth 20000 in
def GB(m:Nat)(b:Nat->Int)(d:Bytes b)(k:Nat)(g:k<=100000)(c:m<=1048576) :
  cM (ι:={ p:Bs // p.length<=8 }) X 99 [.e (.one (.ptr 0 0))] [lx m b k] (λp=>dS p.1) (λ_=>[lx m b (k+1+1)]):=by
 refine cM.oy Tryz.func99 rfl rfl rfl λf=>?_
 refine bk rfl av ?_;refine AK.cP (eu m b d k 40 (by omega) c (by omega)) [0] rfl (λ_=>rfl) ?_
 rintro⟨v,v0,v1⟩
 by_cases h:v=0
 .refine aX [(5,ab)] 100 rfl ?_ ?_
  .simp[ag,h]
  have:=Mi (X:=X) m b d (k+1) (by omega) c Mj (by decide)
  refine AK.mr this [0] rfl rfl rfl rfl ?_ rfl rfl rfl (λ_=>rfl) rfl (λ_=>rfl) rfl ?_
  .refine⟨rfl,λi hi=>?_⟩
   rcases i with _|_|_|_|_|_|i <;> first|rfl|omega
  rintro⟨p,a⟩;refine bk rfl av (AK.lh ⟨p,(by decide:∀ p∈Mj,p.length<=8) p a⟩ (AK.dJ [0] rfl ?_ rfl rfl rfl wU))
  simp[ag]
 .refine aX [(5,ae)] 100 rfl ?_ ?_
  .simp[ag,h]
  have:=Mi (X:=X) m b d (k+1) (by omega) c Mk (by decide)
  refine AK.mr this [0] rfl rfl rfl rfl ?_ rfl rfl rfl (λ_=>rfl) rfl (λ_=>rfl) rfl ?_
  .refine⟨rfl,λi hi=>?_⟩
   rcases i with _|_|_|_|_|_|_|_|i <;> first|rfl|omega
  rintro⟨p,a⟩;refine bk rfl av (AK.lh ⟨p,(by decide:∀ p∈Mk,p.length<=8) p a⟩ (AK.dJ [0] rfl ?_ rfl rfl rfl wU))
  simp[ag]
def words:List Bs:=[[97,98,99],[104,101,108,108,111],[119,111,114,108,100],[97,97,97,97],[107,101,101,112],[122,122],[98,97,99,107,117,112],[113]]
abbrev Vt(k:Nat):={ q:Bs×Nat // q.1.length<=100000/\k<=q.2/\q.2<=k+60 }
def GC(s:Bs) (n:Int)(c:s.length<=10)(j:0<=n/\n<=100):cM (ι:={ p:Bs // p.length<=100000 }) X 157 [dS s,dI n] [] (λp=>dS p.1) (λ_=>[]):=by
 refine cM.oy Tryz.func157 rfl rfl rfl λf=>?_
 refine bk rfl av ?_;refine AK.jP (λx:Nat×Bs×Bs=>x.1<=100/\x.2.2.length+x.2.1.length*x.1<=1010) (λx=>[(0,dS x.2.1),(1,dI x.1),(5,dS x.2.2)]) (λ_=>[]) (λx=>x.1) (n.toNat,s,[]) rfl ?_ rfl av ⟨by grind,?_⟩ ?_
 .simp[ag,ag.cat];omega
 .have:s.length*n.toNat<=10*100:=Nat.mul_le_mul c (by omega)
  grind
 rintro⟨k,t,out⟩ ⟨d,b⟩;simp only at d b
 by_cases a:0<k
 .have l:t.length<=t.length*k:=qY _ a;have i:((k:Int) / 2)=((k / 2:Nat):Int):=by omega
  by_cases h:k % 2=1
  .have g:(t++t).length*(k / 2)+t.length=t.length*k:=by
    have e:k=2*(k / 2)+1:=by omega
    grind
   refine aX [(7,ab),(10,ab)] 100 rfl ?_ (AK.fW (k / 2,t++t,out++t) rfl ?_ rfl av ?_ ?_)
   .simp[ag,a];omega
   .simp[ag,ag.cat]
   .grind
   grind
  .have g:(t++t).length*(k / 2)=t.length*k:=by
    have e:k=2*(k / 2):=by omega
    grind
   refine aX [(7,ab),(10,ae)] 100 rfl ?_ (AK.fW (k / 2,t++t,out) rfl ?_ rfl av ?_ ?_)
   .simp[ag,a];omega
   .simp[ag,ag.cat]
   .grind
   grind
 .obtain rfl:k=0:=by omega
  refine aX [(7,ae)] 100 rfl (by simp[ag]) (AK.leave rfl rfl ?_)
  refine bk rfl av (AK.lh ⟨out,by omega⟩ (AK.bn rfl ?_))
  simp[ag]
set_option maxRecDepth 20000 in
def O8(m:Nat)(b:Nat->Int)(c:Bytes b)(k:Nat)(F:k<=100000)(d:m<=1048576) :
  cM (ι:=Vt k) X 100 [.e (.one (.ptr 0 0))] [lx m b k] (λq=>dS q.1.1) (λq=>[lx m b q.1.2]):=by
 refine cM.oy Tryz.func100 rfl rfl rfl λE=>?_
 refine bk rfl av ?_;refine AK.cP (eu m b c k 5 (by omega) d (by omega)) [0] rfl (λ_=>rfl) ?_
 rintro⟨v,v0,v1⟩;refine bk rfl av ?_;refine AK.bP 1 (λs:Nat×Bs×Nat=>s.1<=4/\s.2.1.length+6*s.1<=24/\k<=s.2.2/\s.2.2+s.1<=k+5) (λs=>[(0,.e (.one (.ptr 0 0))),(4,dI s.1),(3,dS s.2.1)]) (λs=>[lx m b s.2.2]) (λs=>s.1) (v.toNat,[],k+1) rfl ?_ rfl ?_ rfl ⟨by omega,by grind,by simp,by grind⟩ ?_
 .simp[ag,ag.cat];omega
 .simp[ag,ag.cat,aP.same]
 rintro⟨n,s,k1⟩ ⟨D,A,z,r⟩;simp only at D A z r
 by_cases j:0<n
 .refine aX [(9,ab)] 100 rfl ?_ ?_
  .simp[ag,j]
  have:=Mi (X:=X) m b c k1 (by omega) d words (by decide)
  refine AK.mr this [0] rfl rfl rfl rfl ?_ rfl rfl rfl (λ_=>rfl) rfl (λ_=>rfl) rfl ?_
  .refine⟨rfl,λi hi=>?_⟩
   rcases i with _|_|_|_|_|_|_|_|i <;> first|rfl|omega
  rintro⟨p,g⟩;have o:p.length<=6:=(by decide:∀ p∈words,p.length<=6) p g
  refine bk rfl ?_ (AK.aQ (n-1,s++p,k1+1) rfl ?_ ?_ ?_ ?_)
  .simp[ag,bx];omega
  .simp[ag,ag.cat];omega
  .simp[ag,ag.cat,aP.same]
  .grind
  grind
 .obtain rfl:n=0:=by omega
  refine aX [(9,ae)] 100 rfl (by simp[ag]) (AK.leaveD rfl rfl ?_)
  refine bk rfl av ?_;refine AK.cP (eu m b c k1 4 (by omega) d (by omega)) [0] rfl (λ_=>rfl) ?_
  rintro⟨u,G,J⟩
  by_cases l:u=0
  .refine aX [(19,ab)] 100 rfl (by simp[ag,l]) ?_
   refine AK.cP (eu m b c (k1+1) 12 (by omega) d (by omega)) [0] rfl (λ_=>rfl) ?_
   rintro⟨w,K,w1⟩;refine bk rfl av ?_;refine AK.bP 1 (λs:Nat×Bs×Nat=>s.1<=11/\s.2.1.length+s.1<=36/\k<=s.2.2/\s.2.2+s.1<=k+20) (λs=>[(0,.e (.one (.ptr 0 0))),(5,dI s.1),(3,dS s.2.1)]) (λs=>[lx m b s.2.2]) (λs=>s.1) (w.toNat,s,k1+2) rfl ?_ rfl ?_ rfl ⟨by omega,by grind,by grind,by grind⟩ ?_
   .simp[ag,ag.cat];omega
   .simp[ag,ag.cat,aP.same];omega
   rintro⟨n,s2,f⟩ ⟨t,g2,g3,g4⟩;simp only at t g2 g3 g4
   by_cases j:0<n
   .refine aX [(23,ab)] 100 rfl ?_ ?_
    .simp[ag,j]
    refine AK.cP (eu m b c f 26 (by omega) d (by omega)) [0] rfl (λ_=>rfl) ?_
    rintro⟨x,I,H⟩;refine bk rfl ?_ (AK.aQ (n-1,s2++[UInt8.ofNat (97+x).toNat],f+1) rfl ?_ ?_ ?_ ?_)
    .simp[ag,bx];omega
    .simp[ag,ag.cat];omega
    .simp[ag,ag.cat,aP.same]
    .grind
    grind
   .obtain rfl:n=0:=by omega
    refine aX [(23,ae)] 100 rfl (by simp[ag]) (AK.leaveD rfl rfl ?_)
    refine aX [(36,ae)] 100 rfl ?_ ?_
    .simp[ag];omega
    refine AK.cP (eu m b c f 60 (by omega) d (by omega)) [0] rfl (λ_=>rfl) ?_
    rintro⟨y,C,B⟩
    by_cases h:y=0
    .refine aX [(41,ab)] 100 rfl ?_ (AK.lh ⟨(s2++[65],f+1),by grind,by grind,by grind⟩ (AK.dJ [0] rfl ?_ rfl rfl rfl wU))
     .simp[ag,h];omega
     .simp[ag]
    by_cases a:y=1
    .refine aX [(41,ae),(45,ab)] 100 rfl ?_ ?_
     .simp[ag,a]
     refine AK.cP (GC [97,98,99,100,101] 9 (by decide) (by decide)) [] rfl (λ_=>rfl) ?_
     rintro⟨p,g⟩;refine bk rfl av (AK.lh ⟨(p,f+1),g,by grind,by grind⟩ (AK.dJ [0] rfl ?_ rfl rfl rfl wU))
     simp[ag]
    .refine aX [(41,ae),(45,ae)] 100 rfl ?_ (AK.lh ⟨(s2,f+1),by grind,by grind,by grind⟩ (AK.dJ [0] rfl ?_ rfl rfl rfl wU))
     .simp[ag,h,a]
     .simp[ag]
  .refine aX [(19,ae)] 2 rfl (by simp[ag,l]) ?_
   refine aX [(36,ae)] 100 rfl ?_ ?_
   .simp[ag];omega
   refine AK.cP (eu m b c (k1+1) 60 (by omega) d (by omega)) [0] rfl (λ_=>rfl) ?_
   rintro⟨y,C,B⟩
   by_cases h:y=0
   .refine aX [(41,ab)] 100 rfl ?_ (AK.lh ⟨(s++[65],(k1+1)+1),by grind,by grind,by grind⟩ (AK.dJ [0] rfl ?_ rfl rfl rfl wU))
    .simp[ag,h];omega
    .simp[ag]
   by_cases a:y=1
   .refine aX [(41,ae),(45,ab)] 100 rfl ?_ ?_
    .simp[ag,a]
    refine AK.cP (GC [97,98,99,100,101] 9 (by decide) (by decide)) [] rfl (λ_=>rfl) ?_
    rintro⟨p,g⟩;refine bk rfl av (AK.lh ⟨(p,(k1+1)+1),g,by grind,by grind⟩ (AK.dJ [0] rfl ?_ rfl rfl rfl wU))
    simp[ag]
   .refine aX [(41,ae),(45,ae)] 100 rfl ?_ (AK.lh ⟨(s,(k1+1)+1),by grind,by grind,by grind⟩ (AK.dJ [0] rfl ?_ rfl rfl rfl wU))
    .simp[ag,h,a]
    .simp[ag]
def O9(m:Nat)(b:Nat->Int)(f:m<=1048576):cM (ι:={ n:Nat // n<=1048576 }) X 12 [.e (.one (.c (.sl ae 1 m (Sm b))))] [] (λ_=>.e (.one (.ptr 0 0))) (λn=>[lx n.1 b 0]):=by
 refine cM.oy Tryz.func12 rfl rfl rfl λd=>?_
 by_cases h:2000<m
 .refine aX [(5,ab)] 100 rfl ?_ (AK.norm [lx 2000 b 0] rfl ?_ (AK.lh ⟨2000,by decide⟩ (AK.dJ [0] rfl ?_ rfl rfl rfl (λj a=>by simp at a))))
  .simp[ag];omega
  .simp[ag,ag.cat,aP,jL,cv]
  .simp[ag]
 .refine aX [(5,ae)] 100 rfl ?_ (AK.lh ⟨m,f⟩ (AK.dJ [0] rfl ?_ rfl rfl rfl (λj a=>by simp at a)))
  .simp[ag];omega
  .simp[ag]
end
end Go.AM.R1
namespace Go.AM
def Jb(p:Bs):ak:=.string ⟨p.toArray⟩
def SJ{a:ByteArray}{p:Bs}(h:a.data.toList=p):Value.string a=Jb p:=by
 subst h;simp[Jb]
theorem str_val{M:Mem}{v:ak}{p:Bs}(h:Rd M v (.str p)):v=Jb p/\cZ v=ab:=by
 cases h with
 |str e _=>exact⟨SJ e,rfl⟩
end Go.AM
namespace Go.AM.R1
section
open Go.Proofs
variable {X:Cx ah} [X.jr]
def SK(t:List bC):∀ i,i<t.length->(cF.fn t i).length=2/\∀ c∈cF.fn t i,vu c=ab:=by
 intro i _;refine⟨rfl,λc a=>?_⟩
 simp only[hY.fn,sQ,cF,fb,rl,or_false] at a;rcases a with rfl|rfl <;> rfl
abbrev Ml(t:List bC)(xs:List ak):Prop:=ee 2 t.length (cF.fn t) xs
abbrev bK(bf:qW)(n:Nat)(xs:List ak):aV:=.dD (hU 60 2 bf n xs)
abbrev tKB(bf:qW)(n:Nat)(b:Bool):D:=.eK [.one (.v (lD bf n)),.one (.c (.bool b))]
def C5(t:List bC)(p x:Bs):cM (ι:={ q:qW×List ak // Ml (fD t p x).1 q.2 }) X 98 [cF.sl t,dS p,dS x] [] (λq=>tKB q.1.1 (fD t p x).1.length (fD t p x).2) (λq=>[bK q.1.1 (fD t p x).1.length q.1.2]) :=
 (uu t p x).thaw Tryz.func98 rfl (by simp[Ah,pg,sh,n9,vv,vu]) (SK _)
def ee.nil{k:Nat}{es:Nat->List C}:ee k 0 es []:=⟨by simp,λi hi=>by omega,λi hi=>by omega⟩
def Iy{t:List bC}{p x:Bs}(h:(fD t p x).2=ab):(fD t p x).1.length<=6:=by
 unfold fD at h ⊢;split at h
 .rename_i b
  rw[bd b];split at h
  .rename_i a;rw[bd a];exact xm a
  grind
 grind
def Vu{o:aw}{x y:an}(h:o.op=.call { callee:=.builtin .append,args:=#[x,y],argTypes:=#[38,38] }):mj ah o x y 60 i60 :=
 ⟨⟨38,38,i38,i38,h,YA,rfl,YA,rfl⟩,g60,by decide,by decide⟩
def Mm{M:Mem}{p:Bs}(h:p.length<=9223372036854775807):Rd M (Jb p) (.str p):=Rd.str rfl h
def Ml.snoc{t:List bC}{xs:List ak}(h:Ml t xs)(p x:Bs)(b:p.length<=9223372036854775807)(d:x.length<=9223372036854775807):Ml (t++[(p,x)]) (xs++[Jb p,Jb x]):=by
 unfold Ml;rw[bR];refine ee.snoc h (λi hi=>?_) rfl rfl λq c a=>?_
 .simp[hY.fn,sQ,ai,jD hi]
 .have e:cF.fn (t++[(p,x)]) t.length=[.str p,.str x]:=by
   simp[hY.fn,sQ,cF]
  rw[e] at a;rcases q with _|_|q
  .simp at a;subst a;exact⟨Jb p,rfl,λM=>Mm b⟩
  .simp at a;subst a;exact⟨Jb x,rfl,λM=>Mm d⟩
  grind
def Ml.Pa{t:List bC}{xs vs:List ak}(h:Ml t xs)(i:Nat)(hi:i<t.length)(x:Bs)(d:mS vs [.c (.str x)]):Ml (t.set i ((t.getD i cF.bE).1,x)) (xs.take (i*2+1)++vs++xs.drop (i*2+1+vs.length)):=by
 unfold Ml;rw[nL];refine ee.eX h i 1 hi d (bg _) (λg f a=>?_) rfl λq c b=>?_
 .simp[hY.fn,sQ,ai,mi a]
 .have e:cF.fn (t.set i ((t.getD i cF.bE).1,x)) i=[.str (t.getD i cF.bE).1,.str x]:=by
   simp[hY.fn,sQ,cF,ai,hi]
  rw[e] at b;rcases q with _|_|q
  .right;simp at b;subst b;exact⟨by omega,rfl⟩
  .grind
  grind
def aec:∀ j,j<1->([0,1]:List Nat)[j]?=aa j:=λj a=>by
 grind
structure C6 (k c:Nat) where
 t:List bC
 bf:qW
 xs:List ak
 k1:Nat
 fl:Ml t xs
 hl:t.length<=7
 h1:k<=k1
 h2:k1<=k+c
set_option maxRecDepth 20000 in
def Pb(m:Nat)(b:Nat->Int)(o:Bytes b)(k:Nat)(R:k<=50000)(r:m<=1048576) :
  cM (ι:=C6 k 400) X 58 [.e (.one (.ptr 0 0))] [lx m b k] (λq=>.e (.one (.v (lD q.bf q.t.length)))) (λq=>[lx m b q.k1,bK q.bf q.t.length q.xs]):=by
 refine cM.oy Tryz.func58 rfl rfl rfl λP=>?_
 refine aX [] 9 rfl av ?_;refine AK.Ny 3 60 2 rfl λD=>?_
 refine bk rfl av ?_;refine AK.cP (eu m b o k 6 (by omega) r (by omega)) [0] rfl (λ_=>rfl) ?_
 rintro⟨v,v0,v1⟩;refine bk rfl av ?_;refine AK.bP 2 (λs:Nat×List bC×qW×List ak×Nat=>s.1<=5/\Ml s.2.1 s.2.2.2.1/\s.2.1.length<=6/\k<=s.2.2.2.2/\s.2.2.2.2+70*s.1<=k+351) (λs=>[(0,.e (.one (.ptr 0 0))),(4,dI s.1),(3,.e (.one (.v (lD s.2.2.1 s.2.1.length))))]) (λs=>[lx m b s.2.2.2.2,bK s.2.2.1 s.2.1.length s.2.2.2.1]) (λs=>s.1) (v.toNat,[],D,[],k+1) rfl ?_ rfl ?_ rfl ⟨by omega,ee.nil,by simp,by simp,by grind⟩ ?_
 .simp[ag,ag.cat];omega
 .simp[ag,ag.cat,aP.same]
 rintro⟨n,t,bf,xs,k1⟩ ⟨O,f,N,J,I⟩;simp only at O f N J I
 by_cases K:0<n
 .refine aX [(11,ab)] 100 rfl (by simp[ag,K]) ?_
  refine AK.cP (GB m b o k1 (by omega) r) [0] rfl (λ_=>rfl) ?_
  rintro⟨p,L⟩;refine bk rfl av ?_;refine AK.cP (O8 m b o (k1+1+1) (by omega) r) [0] rfl (λ_=>rfl) ?_
  rintro⟨⟨x,E⟩,Q,B,i⟩;simp only at Q B i;refine bk rfl av ?_;refine AK.Jo (C5 t p x) 1 0 rfl rfl rfl rfl (hU.FG rfl (cF.fn t) f.rd) rfl ?_ rfl (λ_=>rfl) (λ_=>rfl) rfl ?_
  .simp[ag,ag.cat,aP.same]
  rintro⟨⟨d,xs'⟩,g⟩;simp only at g ⊢;cases z:(fD t p x).2 with
  |true =>
   have C:=Iy z;generalize (fD t p x).1=t' at g C ⊢;refine aX [] 6 rfl av ?_;refine AK.swap 1 2 (by decide) rfl rfl (λv H h=>h.1) (λv H h=>h.1) ?_
   refine aX [(23,ab)] 100 rfl ?_ (AK.aQ (n-1,t',d,xs',E) rfl ?_ ?_ ?_ ?_)
   .simp[ag,bx];omega
   .simp[ag,ag.cat];omega
   .simp[ag,ag.cat,aP.same]
   .grind
   grind
  |false =>
   refine aX [(23,ae)] 100 rfl ?_ (AK.aQ (n-1,t,bf,xs,E) rfl ?_ ?_ ?_ ?_)
   .simp[ag,bx];omega
   .simp[ag,ag.cat];omega
   .simp[ag,ag.cat,aP.same]
   .grind
   grind
 .obtain rfl:n=0:=by omega
  refine aX [(11,ae)] 100 rfl (by simp[ag]) (AK.leaveD rfl rfl ?_)
  refine bk rfl av ?_;refine AK.cP (eu m b o k1 40 (by omega) r (by omega)) [0] rfl (λ_=>rfl) ?_
  rintro⟨u,S,U⟩
  by_cases F:u=0
  .refine aX [(27,ab)] 100 rfl (by simp[ag,F]) ?_
   refine AK.cP (GB m b o (k1+1) (by omega) r) [0] rfl (λ_=>rfl) ?_
   rintro⟨p,L⟩;refine bk rfl av ?_;refine AK.DO (l:=1) (bf:=bf) (xs:=xs) (n:=t.length) (xv:=[Jb p,Jb [97]]) (Vu rfl) rfl rfl rfl rfl rfl rfl rfl rfl (λM v j c T V=>?_) (by show _*32<=_;omega) λd=>?_
   .grind [str_val]
   refine bk rfl av (AK.lh ⟨t++[(p,[97])],d,xs++[Jb p,Jb [97]],k1+1+1+1,f.snoc p [97] (by omega) (by decide),by grind,by omega,by omega⟩ (AK.dJ [0,1] rfl ?_ ?_ rfl rfl ?_))
   .simp[ag]
   .simp;rfl
   grind
  by_cases a:u=1
  .by_cases y:0<t.length
   .refine AK.Jp (hU.len (l:=1) rfl) λA=>?_
    obtain⟨G,cap,rfl⟩:=A.2.2.1 y;refine aX [(27,ae),(35,ab),(39,ab)] 100 rfl ?_ ?_
    .simp[ag,y,a];omega
    refine AK.DS tok 1 rfl rfl rfl rfl rfl rfl rfl ?_ rfl rfl λvs IZ=>?_
    .grind
    have w:=f.Pa 0 y [65] IZ;refine bk rfl av (AK.lh ⟨t.set 0 ((t.getD 0 cF.bE).1,[65]),.row G cap,_,k1+1,w,by grind,by omega,by omega⟩ (AK.dJ [0,1] rfl ?_ ?_ rfl rfl ?_))
    .simp[ag]
    .simp;rfl
    grind
   .cases bf
    all_goals
     refine aX [(27,ae),(35,ab),(39,ae)] 100 rfl ?_ (AK.lh ⟨t,_,xs,k1+1,f,by omega,by omega,by omega⟩ (AK.dJ [0,1] rfl ?_ rfl rfl rfl ?_))
     .simp[ag,y,a] <;> omega
     .simp[ag]
     grind
  .refine aX [(27,ae),(35,ae)] 100 rfl (by simp[ag,F,a]) (AK.lh ⟨t,bf,xs,k1+1,f,by omega,by omega,by omega⟩ (AK.dJ [0,1] rfl ?_ rfl rfl rfl ?_))
   .simp[ag]
   grind
end
end Go.AM.R1
namespace Go.AM
section
open Go.Conc (G)
section
variable {P:aq}{X:Cx P}{N:Nat}{ops:Array aw}{φ:Fr}{σ:List aV}{x:Nat->D}{S:(Nat->Bool)->List aV}
def o5:List aw->List (List Bool)->List (List Bool)
 |[],a=>a
 |o::r,a=>pX (FL a (bS o.after.toList)) λc=>o5 r (a++[c])
 where pX:List Bool->(List Bool->List (List Bool))->List (List Bool)
 |[],q=>q []
 |true::r,q=>pX r λr=>q (ab::r)
 |false::r,q=>pX r λr=>q (ae::r)
def n6:∀ (l:List Bool)(q:List Bool->List (List Bool)),o5.pX l q=q l
 |[],q=>rfl
 |true::r,q=>by simp only[o5.pX];rw[n6 r]
 |false::r,q=>by simp only[o5.pX];rw[n6 r]
def BM{all:List aw}{D:Nat->Bool}(b:∀ (j:Nat)(o:aw),all[j]?=aa o->D j=ab->∀ e∈bS o.after.toList,D e=ab) :
  ∀ (r:List aw) (a:List (List Bool)),(∀ k,r[k]?=all[a.length+k]?)->(∀ (j:Nat) (c:List Bool),a[j]?=aa c->∀ o,all[j]?=aa o->(∀ e∈bS o.after.toList,D e=ab)->∀ q,bit c q=ab->D q=ab) ->
   ∀ (j:Nat) (c:List Bool),(o5 r a)[j]?=aa c->∀ o,all[j]?=aa o->(∀ e∈bS o.after.toList,D e=ab)->∀ q,bit c q=ab->D q=ab
 |[],a,_,h=>h
 |o::r,a,d,h=>by
  simp only[o5];rw[n6];refine BM b r _ (λk=>?_) ?_
  .have:=d (k+1)
   grind
  .intro j c f;have l:=d 0;simp only[kX,iO] at l;rcases Nat.lt_trichotomy j a.length with g|rfl|i
   .grind
   .rw[gk (bg _)] at f
    grind [zN]
   grind
def hX(all:List aw)(i j:Nat):Bool:=match (o5 all [])[i]? with|some c=>bit c j|none=>ae
def vX{all:List aw}{D:Nat->Bool}(a:∀ (j:Nat)(o:aw),all[j]?=aa o->D j=ab->∀ e∈bS o.after.toList,D e=ab):∀ (i:Nat) o,all[i]?=aa o->(∀ e∈bS o.after.toList,D e=ab)->∀ j,hX all i j=ab->D j=ab:=by
 intro i o d f j b;unfold hX at b;split at b
 .rename_i c g
  exact BM a all [] (by simp) (by simp) i c g o d f j b
 .cases b
def FQ{all:List aw}{D:Nat->Bool}(c:∀ (j:Nat)(o:aw),all[j]?=aa o->D j=ab->∀ e∈bS o.after.toList,D e=ab){i:Nat}(f:D i=ae):∀ j,(j=i∨hX all j i=ab)->D j=ae:=by
 intro j g;rcases g with rfl|g
 .exact f
 .cases h:D j with
  |false=>rfl
  |true =>
   have a:∃ d,all[j]?=aa d:=by
    cases a:all[j]? with
    |some d=>exact⟨d,rfl⟩
    |none =>
     exfalso;have k:(o5 all []).length=all.length:=by
      have:∀ (r:List aw) (b:List (List Bool)),(o5 r b).length=b.length+r.length:=by
       intro r
       induction r with
       |nil=>intro b;simp[o5]
       |cons o r l=>intro b;simp only[o5];rw[n6,l];simp;omega
      simpa using this all []
     unfold hX at g
     grind
   obtain⟨d,a⟩:=a;have:=vX c j d a (c j d a h) i g;rw[f] at this;cases this
def bZ{P:aq}(X:Cx P)(N:Nat)(all:List aw)(φ:Fr)(x:Nat->D)(S:(Nat->Bool)->List aV)(i:Nat)(o:aw):Prop :=
 ∀ D:Nat->Bool,(∀ j,hX all i j=ab->D j=ab)->(∀ j,(j=i∨hX all j i=ab)->D j=ae)->OA X N all o (mZ all φ x i) (S D) (x i) (S (ff i D))
def JQ{P:aq}(X:Cx P)(N:Nat)(all:List aw)(φ:Fr)(x:Nat->D)(S:(Nat->Bool)->List aV):List aw->Nat->Prop
 |[],_=>True
 |o::r,i=>bZ X N all φ x S i o/\JQ X N all φ x S r (i+1)
theorem JQ.get{all:List aw}:∀ {l:List aw}{k:Nat},JQ X N all φ x S l k->∀ i o,l[i]?=aa o->bZ X N all φ x S (k+i) o
 |[],_,_,i,o,h=>by simp at h
 |p::r,k,h,0,o,a=>by simp at a;subst a;exact h.1
 |p::r,k,h,i+1,o,a=>by
  have:=JQ.get h.2 i o (by simpa using a)
  grind
def AK.flags{ops:Array aw}{id:Nat}{K:List It}{Qf:Post}(j:P.follows Departure.mixedOrders=ab)(x:Nat->D)(S:(Nat->Bool)->List aV)(m:S (λ_=>ae)=σ)
  (b:mx ops.toList=ab) (a:r5 ops.toList 0=ab) (e:n5 N ops.toList=ab) (one:JQ X N ops.toList φ x S ops.toList 0)
  (k:∀ D,(∀ i,i<ops.toList.length->D i=ab)->AK X N Qf K .normal (M8 ops.toList φ x) (S D)):AK X N Qf (.code (.region id ops ab)::K) .normal φ σ:=by
 have:=AW.reg (X:=X) (N:=N) (φ:=φ) (σ:=σ) j (all:=ops.toList) ops.toList.length (λ_:Unit=>x) (λ_=>S) (λ_ _=>True) () av m b a e (bg _)
  (λi h1 h2=>absurd h2 (kB.2 h1)) (λg D _ _ i h1 h2=>absurd h2 (kB.2 h1))
  (λg D i o _ h _ f c d=>by
   have h1:=one.get i o h;rw[bt] at h1;exact(h1 D (vX d i o h c) (FQ d f)).Bm ⟨(),λ_ _=>rfl,av⟩ rfl rfl)
  (Q:=AK X N Qf K) (λg D _ l=>by
   rw[pJ];exact .nil (k D l)) id
 rw[oP] at this;exact this
end
end
end Go.AM
namespace Go.AM.R1
section
open Go.Proofs
def iZ(a:List D)(res:D):dk:=λargs σ=>match σ with|[]=>aa (res,[],[args=a])|_=>af
def jC{X:Cx ah}{f:aW}{a:List D}{res:D}(h:Ev X f a [] res []):dM X f (iZ a res):=by
 intro args σ r σ' obs he ho;unfold iZ at he;split at he
 .cases he;have:args=a:=ho;subst this;exact h
 .cases he
variable {X:Cx ah} [X.jr]
end
end Go.AM.R1
namespace Go.AM
def cM.die{P:aq}{ι:Type}{X:Cx P}{f:aW}{args:List D}{E k n:Nat}{b:Nat->List C}{w:BP}{es:ι->Nat->List C}{m:ι->Nat}(h:cM X f args [.buf E k n b] (λ_=>.e (.one (.bp 0 w))) (λi=>[.buf E k (m i) (es i)])):Ev X f args [.buf E k n b] (.e (.one (.bp 0 w))) [.dead] :=
 ⟨h.1,λs vs hr hh S cs hS=>h.2 s vs hr hh S cs λi fr v s' hl mQ lb st=>hS fr v s' hl (by
  obtain⟨lv,h1,_,_⟩:gx _ _ _ (.bp 0 w):=mQ;exact(⟨lv,h1,by simp,λ_ _ _ _ hb=>by grind⟩:gx [.dead] s' v (.bp 0 w))) lb.lE
  ⟨st.size,st.eN,st.mem,st.jz,st.xC,λl B L a c=>by
   obtain⟨B',L',h1,h2,d⟩:=st.box l B L a c;cases l with
   |zero=>simp at a;subst a;exact⟨.dead,L',rfl,h2,av⟩
   |succ l=>grind,st.os,st.tape,st.output,st.own⟩⟩
namespace R1
open Go.Proofs
variable {X:Cx ah}
def E4(h:sA):Ev X 51 [Yv h] [] (dB (gv h)) []:=by
 refine Ev.bQ Tryz.func51 rfl λb=>?_
 have a:bD X []:=.nil;unfold gv
 by_cases c1:h.1=1
 .by_cases c3:1<=h.2
  .exact aC a [(6,ab),(11,ab),(16,ab)] 100 rfl (by simp[ag,c1,c3]) (AK.bn rfl (by simp[ag,c1,c3]))
  .exact aC a [(6,ab),(11,ab),(16,ae)] 100 rfl (by simp[ag,c1];omega) (AK.bn rfl (by simp[ag,c3]))
 .by_cases c2:h.1=2
  .by_cases c3:1<=h.2
   .exact aC a [(6,ae),(11,ab),(16,ab)] 100 rfl (by simp[ag,c2,c3]) (AK.bn rfl (by simp[ag,c2,c3]))
   .exact aC a [(6,ae),(11,ab),(16,ae)] 100 rfl (by simp[ag,c2];omega) (AK.bn rfl (by simp[ag,c3]))
  .exact aC a [(6,ae),(11,ae),(16,ae)] 100 rfl (by simp[ag,c1,c2]) (AK.bn rfl (by
    have:¬(1<=h.1/\h.1<=2):=by omega
    simp only[ag,eC this];simp))
def Ig(h:sA):Ev X 50 [Yv h] [] (dB (!gv h)) []:=by
 refine Ev.bQ Tryz.func50 rfl λb=>?_
 have a:bD X [(51,jZ Tp (λh=>dB (gv h)) λ_=>[])]:=.cons (.ox λh _=>E4 h) .nil
 exact aC a [] 100 rfl av (AK.bn rfl (by simp[ag]))
def Ih(l:List sA):jw l=(decide (l.length<=9)&&!l.any λh=>!gv h):=by
 have:(bh l.length).all (λi=>gv (l.getD i (0,0)))=!l.any λh=>!gv h:=by
  rw[mg,cf,jh,List.any_eq_false]
  grind [List.mem_iff_getElem]
 rw[jw,this,Bool.and_comm]
def Ii(l:List sA):Ev X 27 [cH.sl l] [] (dB (jw l)) []:=by
 refine Ev.bQ Tryz.func27 rfl λd=>?_
 have a:=LH (X:=X) l 50 (λh=>!gv h) λx _=>Ig x
 have b:bD X [(49,iZ [cH.sl l,.e (.one (.c (.fn (.func 50) [] [])))] (dB (l.any λh=>!gv h)))]:=.cons (jC a) .nil
 rw[Ih]
 by_cases h:l.length<=9
 .exact aC b [(6,ab)] 100 rfl ⟨rfl,cn (by omega)⟩ (AK.bn rfl (by simp[ag,h]))
 .exact aC b [(6,ae)] 100 rfl (by simp[ag];omega) (AK.bn rfl (by simp[ag,eC h]))
def sD:dM X 27 lJ:=.ox λl _=>Ii l
def AY(p:bw)(f:p.2.length<=4000000):Ev X 188 [xQ p] [] (cI.sl (p.2.map (·.1))) []:=by
 refine Ev.bQ Tryz.func188 rfl λd=>?_
 refine aX [(1000002,ab)] 100 rfl av ?_;refine AK.iu 3 3 1 rfl rfl ?_;refine bk rfl av ?_;refine AK.bP 2 (λi=>i<=p.2.length) (λi:Nat=>[(1,.e (.one (.ptr 0 0))),(3,.e (.one (.vec 1 1 i (cI.fn ((p.2.take i).map (·.1)))))),(7,dK.sl p.2),(8,dI p.2.length),(9,dI i)]) (λi=>[OY p,.vec 3 1 i (cI.fn ((p.2.take i).map (·.1)))]) (λi=>p.2.length-i) 0 rfl (by simp[ag.cat,ag,aP.same,aP.nil]) rfl (by simp[ag.cat,ag,aP.same,aP.nil]) rfl (by omega) ?_
 intro i hi
 by_cases h:i<p.2.length
 .have b:p.2.getD (i:Int).toNat dK.bE=fX p i:=by grind
  have a:(p.2.take (i+1)).map (·.1)=(p.2.take i).map (·.1)++[(fX p i).1]:=by grind [bq]
  have c:((p.2.take i).map (·.1)).length=i:=by grind
  have e:=cI.cq ((p.2.take i).map (·.1)) (fX p i).1;rw[c] at e;refine aX [(10,ab)] 100 rfl ?_ (AK.aQ (i+1) rfl ?_ ?_ h (by omega))
  .simp only[ag,bx,show i3.bytes=8 from rfl];grind
  .rw[a];simp only[ag.cat,ag,b,aF,aE];and_intros <;> first|exact aP.same|exact e|rfl|omega
  .rw[a];simp only[ag.cat,ag,b,aF,aE];and_intros <;> first|exact aP.same|exact e|rfl|omega
 obtain rfl:i=p.2.length:=by omega
 rw[b7];refine aX [(10,ae)] 100 rfl (by simp[ag]) (AK.leaveD rfl rfl ?_)
 exact bk rfl av (AK.bn rfl (by simp[ag,ag.cat,aP.same]))
abbrev CV:dk:=jZ (Ho dK) (λp=>cI.sl (p.2.map (·.1))) λp=>[p.2.length<=4000000]
def L4:dM X 188 CV:=.ox λp h=>AY p h
def Ij(ps:List bw)(i:Nat):(bO (ps.take i)).length<=(bO ps).length:=by
 have:bO ps=bO (ps.take i)++bO (ps.drop i):=by unfold bO;grind [List.take_append_drop]
 grind
abbrev Yx(l:List Int):D:=.e (.one (.bp 0 (.sl l.length 1 0 l.length)))
def CW(ps:List bw)(n:∀ p∈ps,p.2.length<=4000000)(q:(bO ps).length<=4000000):Ev X 162 [cP.sl ps] [] (Yx (bO ps)) [Ik (bO ps).length (bO ps)]:=by
 refine Ev.bQ Tryz.func162 rfl λl=>?_
 have k:=l.sl 0 rfl;have f:bD X [(188,CV)]:=.cons L4 .nil;refine aC f [(1000002,ab)] 100 rfl av ?_;refine AK.RE 3 3 1 (cI.fn []) rfl ?_;refine aC f [] 100 rfl av ?_;refine AK.bP 1 (λi=>i<=ps.length) (λi:Nat=>[(3,.e (.one (.bp 0 (.sl (bO (ps.take i)).length 1 0 (bO (ps.take i)).length)))),(6,cP.sl ps),(7,dI ps.length),(8,dI i)]) (λi=>[Ik (bO (ps.take i)).length (bO (ps.take i))]) (λi=>ps.length-i) 0 rfl (by simp[ag.cat,ag,aP.same,bO]) rfl (by simp[ag.cat,ag,aP,bO]) rfl (by omega) ?_
 intro i hi
 by_cases h:i<ps.length
 .have g:ps.getD (i:Int).toNat cP.bE=ps.getD i (0,[]):=by grind
  have b:=xc h;have c:=Ij ps (i+1);have o:=n _ (iE (d:=(0,[])) h);generalize ps.getD i (0,[])=p at *;rw[b] at c;generalize bO (ps.take i)=a at *;have e:=cI.L5 a (p.2.map (·.1)) _ rfl;simp only[bR,k6] at c e;refine aC f [(9,ab)] 100 rfl ?_ (AK.aQ (i+1) rfl ?_ ?_ h (by omega))
  .simp only[ag,g,bx,dK.list_fn,dK.aH,k6,show i3.bytes=8 from rfl];grind
  .rw[b];simp only[ag.cat,ag,g,dK.list_fn,bR,k6,aF,aE];and_intros <;> first|exact aP.same|rfl|omega
  .rw[b];simp only[ag.cat,ag,g,dK.list_fn,bR,k6,aF,aE];grind
 obtain rfl:i=ps.length:=by omega
 rw[b7];refine aC f [(9,ae)] 100 rfl (by simp[ag]) (AK.leaveD rfl rfl ?_)
 refine aC f [] 100 rfl av (AK.dJ [0] rfl ?_ rfl rfl rfl (λj m=>absurd m (by simp)))
 simp[ag]
def Il(ps:List bw)(b:∀ p∈ps,p.2.length<=4000000)(a:(bO ps).length<=4000000):Ev X 162 [cP.sl ps] [] (cI.sl (bO ps)) [] :=
 Ev.iY (σ1:=[]) (E:=3) (k:=1) (n:=(bO ps).length) (es:=cI.fn (bO ps)) (CW ps b a) rfl (by simp[ag]) rfl (bg _)
end R1
section
variable {P:aq}{X:Cx P}{N:Nat}{all:List aw}{φ:Fr}{x:Nat->D}{k:Bool->Bool->Bool->List aV}{i g f b:Nat}{o:aw}
abbrev wT(k:Bool->Bool->Bool->List aV)(g f b:Nat):(Nat->Bool)->List aV:=λD=>k (D g) (D f) (D b)
def lI{i j:Nat}{D:Nat->Bool}(h:aG j i=ae):ff i D j=D j:=by simp only[ff,h]
def AL{i:Nat}{D:Nat->Bool}:ff i D i=ab:=by simp only[ff,iN]
def bZ.q3(h1:aG g i=ae)(h2:aG f i=ae)(e:aG b i=ae)(h:∀ a c d,OA X N all o (mZ all φ x i) (k a c d) (x i) (k a c d)):bZ X N all φ x (wT k g f b) i o:=by
 intro D _ _;show OA X N all o _ (k (D g) (D f) (D b)) _ (k (ff i D g) (ff i D f) (ff i D b));rw[lI h1,lI h2,lI e];exact h _ _ _
def bZ.e1(hi:aG g i=ab)(h1:aG g i=ab)(h2:aG f i=ae)(a:aG b i=ae)(h:∀ c d,OA X N all o (mZ all φ x i) (k ae c d) (x i) (k ab c d)):bZ X N all φ x (wT k g f b) i o:=by
 intro D _ j;have e:=bX hi;subst e;show OA X N all o _ (k (D g) (D f) (D b)) _ (k (ff g D g) (ff g D f) (ff g D b));rw[AL,lI h2,lI a,j g (.inl rfl)];exact h _ _
def bZ.e2(hi:aG f i=ab)(h1:aG g i=ae)(d:aG b i=ae)(hb:hX all b i=ab)(j:aG f i=ab)(h:∀ a,OA X N all o (mZ all φ x i) (k a ae ae) (x i) (k a ab ae)):bZ X N all φ x (wT k g f b) i o:=by
 intro D _ c;have e:=bX hi;subst e;show OA X N all o _ (k (D g) (D f) (D b)) _ (k (ff f D g) (ff f D f) (ff f D b));rw[AL,lI h1,lI d,c f (.inl rfl),c b (.inr hb)];exact h _
def bZ.e3(hi:aG b i=ab)(h1:aG g i=ae)(h2:aG f i=ae)(hb:hX all i f=ab)(d:aG b i=ab)(h:∀ a,OA X N all o (mZ all φ x i) (k a ab ae) (x i) (k a ab ab)):bZ X N all φ x (wT k g f b) i o:=by
 intro D c j;have e:=bX hi;subst e;show OA X N all o _ (k (D g) (D f) (D b)) _ (k (ff b D g) (ff b D f) (ff b D b));rw[AL,lI h1,lI h2,j b (.inl rfl),c f hb];exact h _
end
namespace R1
open Go.Proofs
variable {X:Cx ah} [X.jr]
end R1
end Go.AM
namespace Go.AM.R1
section
open Go.Proofs
section
variable {X:Cx ah}
set_option maxRecDepth 20000 in
def Sf(m:Nat)(b:Nat->Int)(f:Bytes b)(k:Nat)(a:k<=4000000)(d:m<=1048576)(l:List Bs)(h:1<=l.length/\l.length<=1000) :
  Ev X 101 [.e (.one (.ptr 0 0)),cS.sl l] [lx m b k] (dS (l.getD (oz m b k l.length).toNat [])) [lx m b (k+1)]:=by
 refine Ev.bQ Tryz.func101 rfl λc=>?_
 refine bk rfl av ?_;refine AK.cQ (pq m b f k l.length a d (by omega)) [0] rfl ?_
 have g:=kU m b k l.length (by omega)
 refine bk rfl ?_ (AK.dJ [0] rfl ?_ rfl rfl rfl wU)
 .simp[ag];omega
 .rfl
end
end
section
open Go.Proofs
def wV(a:List D)(σ0:List aV)(res:D)(σ1:List aV):dk:=λargs σ=>aa (res,σ1,[args=a,σ=σ0])
def yK{X:Cx ah}{f:aW}{a:List D}{σ0 σ1:List aV}{res:D}(h:Ev X f a σ0 res σ1):dM X f (wV a σ0 res σ1):=by
 intro args σ r σ' obs he ho;cases he;obtain⟨b,c⟩:args=a/\σ=σ0:=ho;subst b c;exact h
variable {X:Cx ah} [X.jr]
end
section
open Go.Proofs
variable {X:Cx ah}
def E5(s:aZ):Ev X 105 [eH s] [] (eH s) []:=by
 refine Ev.ga Tryz.func105 rfl rfl rfl λa=>?_
 refine bk rfl (by simp[ag]) ?_
 refine AK.freeze 2 1 rfl rfl rfl ?_;exact AK.iR tok [] rfl (by simp[ag,ag.cat,aP.same]) rfl rfl rfl (λj b=>absurd b (by simp))
abbrev L6:dk:=jZ Ou (λs=>eH s) λ_=>[]
def SD:dM X 105 L6:=.ox λs _=>E5 s
abbrev I4(s:aZ):aV:=.cells 165 [.c (.sl ae 2 s.1.length (cP.fn s.1)),.c (.sl ae 2 s.2.1.length (cp.fn s.2.1)),.c (.sl ae 2 s.2.2.length (cH.fn s.2.2))]
structure Qs (s:aZ):Prop extends O3 s where
 pk:∀ p∈s.1,p.2.length<=4000000
 nm:(bO s.1).length<=4000000
def yZ(k:Int)(s:aZ):Bool:=(bh s.1.length).all (l9 k s.1)&&decide (s.1.length<=20)&&decide (bO s.1).Nodup
def E6(k:Int)(s:aZ)(w:ck k=ab)(g:Qs s):Ev X 106 [eH s,dI k] [] (dB (yZ k s)) []:=by
 refine Ev.bQ Tryz.func106 rfl λG=>?_
 have E:=g.pN;have y:=g.pk;have z:=Il (X:=X) s.1 g.pk g.nm;have n:bD X [(161,Gg)]:=.cons Ov .nil;refine aC n [] 100 rfl av ?_;unfold yZ;refine AK.bP 1 (λi=>i<=s.1.length/\∀ j,j<i->l9 k s.1 j=ab) (λi:Nat=>[(1,dI k),(2,.e (.one (.ptr 0 0))),(9,cP.sl s.1),(10,dI s.1.length),(11,dI i)]) (λ_=>[I4 s]) (λi=>s.1.length-i) 0 rfl (by simp[ag.cat,ag,aP.same]) rfl (by simp[ag.cat,ag,aP.same]) rfl ⟨by omega,by omega⟩ ?_
 rintro i ⟨hi,b⟩
 by_cases h:i<s.1.length
 .have v:s.1.getD i cP.bE=s.1.getD i (0,[]):=rfl;have u:s.1.getD (i-1) cP.bE=s.1.getD (i-1) (0,[]):=rfl;have a:l9 k s.1 i=(jm k (s.1.getD i (0,[]))&&CM (·.1) (0,[]) s.1 i):=rfl;have c:=mJ (f:=λp:bw=>p.1) (d:=(0,[])) (l:=s.1) (i:=i)
  have m:=y _ (iE (d:=(0,[])) h);generalize s.1.getD i (0,[])=p at *;generalize s.1.getD (i-1) (0,[])=p' at *;cases q:jm k p with
  |false =>
   rw[q,pK] at a;refine aC n [(12,ab),(20,ab),(35,ab)] 100 rfl ?_ (AK.eh (b6.zero rfl ?_))
   .simp[-ai,ag,v,w,m,q,dK.list_fn,dK.aH];omega
   .rw[eb h a];simp[ag]
  |true =>
   rw[q,dN] at a
   by_cases B:i=0
   .subst B;refine aC n [(12,ab),(20,ae),(23,ae),(35,ae)] 100 rfl ?_ (AK.aQ 1 rfl (by simp[ag.cat,ag,aP.same]) (by simp[ag.cat,ag,aP.same]) ⟨h,fh b (by rw[a];rfl)⟩ (by omega))
    simp[-ai,ag,v,w,m,q,dK.list_fn,dK.aH,bx];omega
   have c:=c B
   by_cases A:p'.1<p.1
   .refine aC n [(12,ab),(20,ae),(23,ab),(33,ae),(35,ae)] 100 rfl ?_ (AK.aQ (i+1) rfl (by simp[ag.cat,ag,aP.same]) (by simp[ag.cat,ag,aP.same]) ⟨h,fh b (by rw[a,c];exact cn A)⟩ (by omega))
    simp[-ai,ag,v,u,w,m,q,dK.list_fn,dK.aH,bx];omega
   .refine aC n [(12,ab),(20,ae),(23,ab),(33,ab),(35,ab)] 100 rfl ?_ (AK.eh (b6.zero rfl ?_))
    .simp[-ai,ag,v,u,w,m,q,dK.list_fn,dK.aH,bx];omega
    .rw[eb h (by rw[a,c];exact eC A)];simp[ag]
 obtain rfl:i=s.1.length:=by omega
 rw[cf.2 b,dN];refine aC n [(12,ae)] 100 rfl (by simp[ag]) (AK.leaveD rfl rfl ?_)
 refine aC n [] 100 rfl av ?_;refine AK.cQ (CW s.1 g.pk g.nm) [] rfl ?_;refine aC n [] 100 rfl av ?_;refine AK.cQ (CX (bO s.1) g.nm) [1] rfl ?_;have D:=AZ (bO s.1);have r:=(xg (X:=X) (mK (bO s.1)) (by rw[gI];exact g.nm)).die
 rw[gI] at r;have x:=sE (mK (bO s.1));rw[gI] at x;have C:=g.nm;generalize dT (mK (bO s.1))=cs at *;generalize mK (bO s.1)=so at *;have oa:bD X [(164,wV [kF (bO s.1).length] [Ik (bO s.1).length so] (.e (.one (.bp 0 (.sl (bO s.1).length 1 0 cs.length)))) [.dead]),(162,iZ [cP.sl s.1] (cI.sl (bO s.1)))]:=.cons (yK r) (.cons (jC z) .nil);refine aC oa [(1000009,ab)] 100 rfl av ?_
 by_cases t:s.1.length<=20
 rotate_left
 .refine aC oa [(46,ae)] 100 rfl ?_ (AK.bn rfl ?_)
  .simp[ag];omega
  .simp[ag,t]
 have o:(s.1.length:Int)<=20:=by omega
 generalize F:bO s.1=N at *;refine AK.Hg (ι:=Unit) ei 6 (λi=>match bo i 5 with|true=>ab|false=>match aG i 8 with|true=>ab|false=>aG i 9) (λi=>[.e (.one (.ptr 0 0)),cP.sl s.1,dI s.1.length,dB (decide ((s.1.length:Int)<=20)),dB ab,.e (.one (.bp 1 (.sl N.length 1 0 N.length))),.any,.any,.e (.one (.ptr 0 0)),cP.sl s.1].getD i .any)
  (λ_ i=>[.any,.any,.any,.any,.any,.any,.e (.one (.bp 1 (.sl N.length 1 0 cs.length))),dI cs.length,.any,.any,cI.sl N,dI N.length,dB ((cs.length:Int)==N.length),dB ((cs.length:Int)==N.length),dB ((cs.length:Int)==N.length)].getD i .any) (λ_=>[I4 s,.dead]) rfl rfl rfl rfl rfl rfl ?_ ?_ ?_ ?_
 .exact⟨.bT tok oa rfl,.bT tok oa rfl,.bT tok oa rfl,.bT tok oa rfl,.eval tok oa (ds:=[(46,ab)]) rfl (cn o),.bT tok oa rfl,av,av,.bT tok oa rfl,.bT tok oa rfl,av,av,av,av,av,av⟩
 .intro _;exact⟨.bT tok oa rfl,.bT tok oa rfl,.bT tok oa rfl,.bT tok oa rfl,.eval tok oa (ds:=[(46,ab)]) rfl (cn o),.bT tok oa rfl,av,.bT tok oa rfl,.bT tok oa rfl,.bT tok oa rfl,.eval tok oa (ds:=[]) rfl rfl,.bT tok oa rfl,.bT tok oa rfl,.bT tok oa rfl,.bT tok oa rfl,av⟩
 .exact .tg (en tok oa (ds:=[]) (σ':=aa [I4 s,.dead]) rfl ⟨rfl,rfl⟩)
 .intro _;refine aC oa [] 100 rfl av (AK.bn rfl ?_);have:((cs.length:Int)==N.length)=decide N.Nodup:=by
   grind
  simp[ag,this,t]
end
structure ly (s:aZ):Prop where
 a1:s.1.length<=20
 a2:∀ p∈s.1,(1<=p.1/\p.1<=99)/\p.2.length<=4
 a3:s.2.1.length<=21
 a4:∀ x∈s.2.1,(1<=x.1/\x.1<=20)/\x.2.length<=6/\∀ y∈x.2,y.2.length<=40
 a5:s.2.2.length<=9
 a6:∀ h∈s.2.2,1<=h.2/\h.2<=20
def ku{α a:Type}{f:α->List a}{n:Nat}:∀ {l:List α},(∀ x∈l,(f x).length<=n)->(l.flatMap f).length<=n*l.length
 |[],_=>by simp
 |x::l,h=>by
  have c:=h x List.mem_cons_self;have d:=ku (l:=l) λy b=>h y (uR _ b)
  rw[List.flatMap_cons,bR,fa,Nat.mul_succ];omega
def oh{x:cy}(h:x.2.length<=6/\∀ y∈x.2,y.2.length<=40):(cg x.2).length<=240:=by
 have:=ku (f:=λy:gj=>y.2) (n:=40) h.2
 unfold cg;omega
def ly.Yz{s:aZ}(h:ly s):Qs s:=by
 have h1:=h.a1;have c:=h.a3;have d:(bO s.1).length<=4*s.1.length:=ku λp a=>by rw[k6];exact(h.a2 p a).2
 have e:(jy s.2.1).length<=240*s.2.1.length:=ku λx b=>oh (h.a4 x b).2
 refine⟨⟨by omega,λx b=>?_,by omega,by omega⟩,λp a=>?_,by omega⟩
 .have:=(h.a4 x b).2
  grind
 .have:=(h.a2 p a).2;omega
def ly.Mc{s:aZ}(h:ly s):dL s:=by
 have h1:=h.Yz;have a:=h.a5;exact⟨h1.pN,h1.pk,h1.sN,h1.sm,by omega⟩
def ly.O5{s:aZ}(h:ly s):Sd s :=
 ⟨λx a=>by have:=(h.a2 x a).1;omega,λx a=>by have:=(h.a4 x a).1;omega,λx a=>by have:=h.a6 x a;omega⟩
def ly.fG{s:aZ}(h:ly s):(fG s.1).length<=100000:=by
 have h1:=h.a1;have:(R1.fG s.1).length<=4*s.1.length:=ku λp a=>by rw[k6];exact(h.a2 p a).2
 omega
def A6{k:Int}{x:cy}{ps:List bw}(h:(cm k x ps).isSome=ab):x.2.length<=6/\∀ y∈x.2,y.2.length<=40:=by
 unfold cm at h;split at h
 .rename_i b
  simp only[bL] at b;obtain⟨⟨_,g⟩,e⟩:=b;refine⟨?_,λy f=>?_⟩
  .simp only[dq,bL,ba,cT,k6] at e;exact e.2
  .have a:=bu.1 g y f;unfold fileOf at a;split at a
   .cases a
   .rename_i l d
    split at a
    .cases a
    .rename_i t c
     have i:l.length=y.2.length:=by unfold dF at d;split at d <;> cases d;simp
     unfold fQ at c;split at c
     .rename_i b
      simp only[bL,fS,dZ,ba] at b;have:=oe l.flatten;rw[b.2] at this;omega
     .cases c
 .cases h
def qS.Vs{k:Int}{s:aZ}(h:qS k s):ly s:=by
 have hl:s.2.1.length<=20:=by
  have:=A3 1 h.sa λx a=>(h.sn x a).1
  omega
 have b:=h.log;simp only[jw,bL,ba,cf] at b;refine⟨h.len,λp c=>⟨(h.pk p c).no,(h.pk p c).len.2⟩,by omega,λx a=>⟨(h.sn x a).1,A6 (h.sn x a).2⟩,b.2,λq e=>?_⟩
 have:=(qf (p:=gv) (d:=(0,0))).1 b.1 q e;simp only[gv,bL,ba] at this;exact this.2
def Md{l:List (Int×Int)}(h:∀ x∈l,-4000000<=x.2/\x.2<=4000000):1<=pw l:=(sq l h).1
def Me{s:aZ}(h:ly s):1<=fE s:=by
 have:=Md h.O5.h;unfold fE;split <;> omega
def Mf{s:aZ}(h:ly s):1<=iz s:=by
 unfold iz;split
 .omega
 .rename_i a
  have:=(h.a2 _ (Iu a (0,[]))).1;omega
def ly.save{k:Int}{s:aZ}{t:List bC}{by_:Int}(h:ly s)(j:s.2.1.length<=20)(e:dq t=ab)(c:j0 k s t=ae):ly (nu k s by_ t):=by
 simp only[j0,Bool.or_eq_false_iff,bM] at c;obtain⟨p,r,m,o⟩:=c;have g:=Me h;have n:=Mf h;have d:=uo.1 e;unfold nu;refine⟨by simp only[bR];omega,λx a=>?_,by grind,λx a=>?_,by grind,λx a=>?_⟩
 .rcases gC.1 a with a|a
  .exact h.a2 x a
  .obtain⟨b,q,a1,a2,a3,a4,a5,rfl⟩:=y5 k _ _ _ (wS (k:=k) (l:=indexOf s.1) (uq e)).1 x a;have a2:b<iz s+(yH k s t).length:=a2;exact⟨⟨by show 1<=b;omega,by show b<=99;omega⟩,by rw[L9];exact a4⟩
 .rcases gC.1 a with a|a
  .exact h.a4 x a
  .rw[kY] at a;subst a;refine⟨⟨g,by show fE s<=20;omega⟩,by show (t.map _).length<=6;rw[k6];exact d.2.2.2,λy i=>?_⟩
   obtain⟨f,c,rfl⟩:=lB.1 i;have h1:=(d.1 f c).2;simp only[dZ,bL,ba] at h1;have h2:=oe f.2;show ((pieces f.2).map _).length<=40;rw[k6];omega
 .rcases gC.1 a with a|a
  .exact h.a6 x a
  grind
section
open Go.Proofs
variable {X:Cx ah}
def Fj(s:aZ)(a:dL s):Ev X 38 [eH s] [] (eH s) []:=by
 refine(fx s a.p a.p2 a.sn a.s2 a.h).forget rfl ?_ rfl;simp[ag.cat,ag,aP.same]
abbrev Bc:dk:=jZ Ou (λs=>eH s) λs=>[dL s]
def GH:dM X 38 Bc:=.ox λs h=>Fj s h
def xt(w:cN)(c:dL w.1)(f:w.2.1.length<=4000000)(g:w.2.2.length<=4000000):Ev X 61 [Ja w] [] (.e (.agg [qR cP w.1.1,qR cp w.1.2.1,qR cH w.1.2.2,qR cI w.2.1,.vec 0 1 w.2.2.length (cI.fn w.2.2)])) [.vec 3 1 w.2.2.length (cI.fn w.2.2)]:=by
 refine Ev.iv tok Tryz.func61 rfl rfl rfl λd=>?_
 have b:bD X [(38,Bc)]:=.cons GH .nil;refine aC b [(2000009,ab)] 200 rfl ?_ ?_
 .simp only[ag,cP.list_fn,cP.aH,cp.list_fn,cp.aH,cH.list_fn,cH.aH,c,aF,aE,show i3.bytes=8 from rfl,gi];and_intros <;> omega
 refine AK.norm [Ni w,.cells 30 [qR cP w.1.1,qR cp w.1.2.1,qR cH w.1.2.2,qR cI w.2.1,.vec 2 1 w.2.2.length (cI.fn w.2.2)],.vec 3 1 w.2.2.length (cI.fn w.2.2)] rfl ?_ ?_
 .simp[ag,ag.cat,aP.same,cP.list_fn,cp.list_fn,cH.list_fn,gq]
 refine AK.dE () [2] rfl rfl rfl rfl rfl rfl rfl rfl ?_ rfl rfl rfl rfl (λj a=>absurd a (by simp))
 simp[ag,ag.cat,aP.same]
def IE(w:cN)(a:dL w.1)(b:w.2.1.length<=4000000)(c:w.2.2.length<=4000000):Ev X 61 [Ja w] [] (Ja w) [] :=
 (xt w a b c).forget rfl (by simp[ag.cat,ag,aP.same]) rfl
abbrev vl:dk:=jZ (Yi Yw) (λw=>Ja w) λw=>[dL w.1,w.2.1.length<=4000000,w.2.2.length<=4000000]
def Bd:dM X 61 vl:=.ox λw h=>IE w h.1 h.2.1 h.2.2
abbrev Zj(p:bw)(a:List cC):List aV:=[OY p,.cells 85 [.c (.int .i64 0),dr],.cells 85 [.c (.int .i64 p.1),.vec 3 2 a.length (dK.fn a)],.vec 88 2 a.length (dK.fn a)]
def xu{α:Type}{l:List α}{q:α->Bool}{i:Nat}(h:i<l.length)(d:α):(l.take (i+1)).filter q=if q (l.getD i d)=ab then (l.take i).filter q++[l.getD i d] else (l.take i).filter q:=by
 rw[bq h d,List.filter_append,List.filter_cons];split <;> simp
def filter_le{α:Type}(l:List α)(q:α->Bool){i:Nat}(h:i<=l.length):((l.take i).filter q).length<=i:=eL (j6 _ _) (by simp;omega)
def MN(p:bw)(ns:List Int)(g:p.2.length<=4000000):Ev X 97 [xQ p,cI.sl ns] [] (xQ (jb p ns)) []:=by
 refine Ev.iv tok Tryz.func97 rfl rfl rfl λm=>?_
 have b:bD X [(47,CJ)]:=.cons Gx .nil;refine aC b [(1000002,ab)] 200 rfl av ?_;refine AK.gm 2 1 88 2 (dK.fn []) rfl rfl ?_;refine aC b [] 100 rfl av ?_;refine AK.bP 4 (λi=>i<=p.2.length) (λi:Nat=>[(1,cI.sl ns),(2,.e (.one (.ptr 0 0))),(4,.e (.one (.ptr 1 0))),(5,.e (.one (.ptr 2 0))),(6,dI i)])
  (λi=>Zj p ((p.2.take i).filter λx=>ns.contains x.1)) (λi=>p.2.length-i) 0 rfl (by simp[ag.cat,ag,aP.same]) rfl (by simp[ag.cat,ag,aP.same,aP.nil]) rfl (by omega) ?_
 intro i hi;have k:=filter_le p.2 (λx=>ns.contains x.1) hi
 by_cases h:i<p.2.length
 .have f:p.2.getD i dK.bE=fX p i:=rfl;have c:(p.2.take (i+1)).filter (λx=>ns.contains x.1)=if ns.contains (fX p i).1=ab then (p.2.take i).filter (λx=>ns.contains x.1)++[fX p i] else (p.2.take i).filter (λx=>ns.contains x.1):=xu h (0,[])
  generalize (p.2.take i).filter (λx=>ns.contains x.1)=a at *
  generalize fX p i=x at *;cases d:ns.contains x.1 with
  |true =>
   rw[bd d] at c;have g:=dK.cq a x;refine aC b [(15,ab),(25,ab)] 200 rfl ?_ (AK.aQ (i+1) rfl (by simp[ag.cat,ag,aP.same]) ?_ h (by omega))
   .simp[-ai,-List.contains_eq_mem,ag,f,h,d,cI.list_fn,cI.aH,bx,show i88.bytes=24 from rfl];omega
   .rw[c];simp only[ag.cat,ag,bA,f,bR,er,aF,aE]
    and_intros <;> first|exact aP.same|exact g|rfl|omega
  |false =>
   rw[aY (by rw[d];simp)] at c
   refine aC b [(15,ab),(25,ae)] 200 rfl ?_ (AK.aQ (i+1) rfl (by simp[ag.cat,ag,aP.same]) ?_ h (by omega))
   .simp[-ai,-List.contains_eq_mem,ag,f,h,d,cI.list_fn,cI.aH,bx];omega
   .rw[c];simp[ag.cat,ag,aP.same]
 obtain rfl:i=p.2.length:=by omega
 rw[b7];refine aC b [(15,ae)] 100 rfl (by simp[ag]) (AK.leaveD rfl rfl ?_)
 refine aC b [] 100 rfl av ?_;refine AK.dE () [] rfl rfl rfl rfl rfl rfl rfl rfl ?_ rfl rfl rfl rfl (λj l=>absurd l (by simp))
 simp[ag,ag.cat,aP.same,jb]
abbrev MO:dk:=p9 (Ho dK) (aL cI) (λp ns=>xQ (jb p ns)) λp _=>[p.2.length<=4000000]
def S4:dM X 97 MO:=.tm λp ns h=>MN p ns h
abbrev Tw(w:cN)(b:Bool):D:=.eK [.agg (Vr w),.one (.c (.bool b))]
abbrev S5:List A:=[dr,dr,dr,dr,dr]
def stepT(no:Int)(ms:List Int)(ps:List bw)(i:Nat):List bw:=jo no ms (ps.take i)
def IF{no:Int}{ms:List Int}{ps:List bw}{i:Nat}(h:i<ps.length):stepT no ms ps (i+1)=if (ln no ms (ps.getD i (0,[]))).2.length=0 then stepT no ms ps i else stepT no ms ps i++[ln no ms (ps.getD i (0,[]))]:=by
 unfold stepT jo;rw[bq h (0,[]),rm,List.filter_append,List.map_singleton]
 grind
def IG(no:Int)(ms:List Int)(ps:List bw){i:Nat}(h:i<=ps.length):(stepT no ms ps i).length<=i:=by
 unfold stepT jo
 grind
def Fl(w:cN)(b:dL w.1)(e:w.2.1.length<=4000000)(c:w.2.2=[]):Ev X 57 [Ja w] [] (Tw w ae) []:=by
 refine Ev.ga Tryz.func57 rfl rfl rfl λd=>?_
 have a:bD X [(61,vl)]:=.cons Bd .nil;refine aC a [(13,ab)] 200 rfl ?_ ?_
 .simp only[ag,cP.list_fn,cP.aH,cp.list_fn,cp.aH,cH.list_fn,cH.aH,cI.list_fn,cI.aH,b,c,aF,aE];simp;omega
 refine AK.freeze 2 1 rfl rfl rfl ?_;refine AK.iR tok [] rfl ?_ rfl rfl rfl fO;simp[ag.cat,ag,aP.same,cP.list_fn,cp.list_fn,cH.list_fn,cI.list_fn]
abbrev Zs(st:aZ)(ms:List Int)(l:List Int)(a:List bw):List aV:=[Ni (st,ms,l),.cells 30 S5,Ni (st,ms,l),.vec 85 2 a.length (cP.fn a)]
def _root_.Go.AM.hY.Pw{α:Type}(c:hY α)(x:α)(l:List α){n:Nat}(h:n=l.length):aP n (jL 1 (c.fn (x::l))) (c.fn l):=by
 intro i hi;simp only[jL,hY.fn,sQ,ai,Nat.add_comm 1 i,mN]
def Fs(st:aZ)(ms lf:List Int) (no:Int)(r:List Int)(d:lf=no::r)(q:dL st)(v:ms.length<=4000000)(w:lf.length<=4000000):Ev X 57 [Ja (st,ms,lf)] [] (Tw ((jo no ms st.1,st.2),ms,r) ab) []:=by
 refine Ev.ga Tryz.func57 rfl rfl rfl λA=>?_
 have g:bD X [(61,vl),(97,MO)]:=.cons Bd (.cons S4 .nil);have u:0<lf.length:=by rw[d];simp
 refine aC g [(13,ae),(1000005,ab)] 200 rfl ?_ ?_
 .simp only[ag,cP.list_fn,cP.aH,cp.list_fn,cp.aH,cH.list_fn,cH.aH,cI.list_fn,cI.aH,q,v,w,aF,aE,dt,cW];omega
 refine AK.iu 5 85 2 rfl rfl ?_;refine aC g [] 200 rfl av ?_;have z:=q.p;refine AK.bP 4 (λi=>i<=st.1.length) (λi:Nat=>[(1,.e (.one (.ptr 0 0))),(2,.e (.one (.ptr 1 0))),(4,.e (.one (.ptr 2 0))),(5,.e (.one (.vec 3 2 (stepT no ms st.1 i).length (cP.fn (stepT no ms st.1 i))))),(6,dI i)])
  (λi=>Zs st ms lf (stepT no ms st.1 i)) (λi=>st.1.length-i) 0 rfl ?_ rfl ?_ rfl (by omega) ?_
 .simp[ag.cat,ag,aP.same,aP.nil,stepT,jo]
 .simp[ag.cat,ag,aP.same,aP.nil,stepT,jo,cP.list_fn,cp.list_fn,cH.list_fn,cI.list_fn]
 intro i hi
 by_cases h:i<st.1.length
 .have f:st.1.getD i cP.bE=st.1.getD i (0,[]):=rfl;have l:=q.p2 _ (gO h (0,[]));have b:=IF (no:=no) (ms:=ms) h;have x:=IG no ms st.1 hi;have o:lf.getD (Int.toNat 0) cI.bE=no:=by rw[d];rfl
  generalize stepT no ms st.1 i=a at *;generalize st.1.getD i (0,[])=p at *
  by_cases k:p.1=no
  .have j:ln no ms p=jb p ms:=by unfold ln;rw[bd k]
   rw[j] at b;have n:=cP.cq a (jb p ms);have y:(jb p ms).2.length<=p.2.length:=j6 _ _;have c:(p.1,p.2)=p:=rfl
   by_cases m:(jb p ms).2.length=0
   .rw[bd m] at b;refine aC g [(21,ab),(36,ab),(44,ae)] 200 rfl ?_ (AK.aQ (i+1) rfl ?_ ?_ h (by omega))
    .simp only[ag,bA,f,o,c,l,dK.list_fn,dK.aH,cI.list_fn,cI.aH,bx,ba,bM,fS,aF,aE]
     and_intros <;> first|exact k|omega
    .rw[b];simp[ag.cat,ag,aP.same]
    .rw[b];simp[ag.cat,ag,aP.same]
   .rw[aY m] at b;refine aC g [(21,ab),(36,ab),(44,ab)] 200 rfl ?_ (AK.aQ (i+1) rfl ?_ ?_ h (by omega))
    .simp only[ag,bA,f,o,c,l,dK.list_fn,dK.aH,cI.list_fn,cI.aH,bx,show i85.bytes=32 from rfl,ba,bM,fS,aF,aE]
     and_intros <;> first|exact k|omega
    .rw[b];simp only[ag.cat,ag,bA,f,c,dK.list_fn,cI.list_fn,bR,er,aF,aE]
     and_intros <;> first|exact aP.same|exact n|rfl|omega
    .rw[b];simp only[ag.cat,ag,bA,f,c,dK.list_fn,cI.list_fn,bR,er,aF,aE]
     and_intros <;> first|exact aP.same|exact n|rfl|omega
  .have j:ln no ms p=p:=by unfold ln;rw[aY k]
   rw[j] at b;have n:=cP.cq a p
   by_cases m:p.2.length=0
   .rw[bd m] at b;refine aC g [(21,ab),(36,ae),(44,ae)] 200 rfl ?_ (AK.aQ (i+1) rfl ?_ ?_ h (by omega))
    .simp only[ag,bA,f,o,bx,ba,bM,dt,cW,aF,aE]
     and_intros <;> first|exact k|omega
    .rw[b];simp[ag.cat,ag,aP.same]
    .rw[b];simp[ag.cat,ag,aP.same]
   .rw[aY m] at b;refine aC g [(21,ab),(36,ae),(44,ab)] 200 rfl ?_ (AK.aQ (i+1) rfl ?_ ?_ h (by omega))
    .simp only[ag,bA,f,o,bx,show i85.bytes=32 from rfl,ba,bM,dt,cW,aF,aE]
     and_intros <;> first|exact k|omega
    .rw[b];simp only[ag.cat,ag,bA,f,bR,er,aF,aE]
     and_intros <;> first|exact aP.same|exact n|rfl|omega
    .rw[b];simp only[ag.cat,ag,bA,f,bR,er,aF,aE]
     and_intros <;> first|exact aP.same|exact n|rfl|omega
 obtain rfl:i=st.1.length:=by omega
 have s:stepT no ms st.1 st.1.length=jo no ms st.1:=by unfold stepT;rw[b7]
 rw[s];refine aC g [(21,ae)] 200 rfl (by simp[ag]) (AK.leaveD rfl rfl ?_)
 refine aC g [] 200 rfl ?_ ?_
 .simp only[ag,cv,iQ,aF,aE];omega
 refine AK.freeze 2 1 rfl rfl rfl ?_;refine AK.iR tok [] rfl ?_ rfl rfl rfl fO;have t:=cI.Pw no r rfl;rw[<-d] at t;simp only[ag.cat,ag,cv,aF,aE]
 and_intros <;> first|exact aP.same|exact t|(rw[d];simp;done)|grind|rfl
def VK(w:cN):Bool:=!w.2.2.isEmpty
def II(w:cN)(a:dL w.1)(b:w.2.1.length<=4000000)(d:w.2.2.length<=4000000):Ev X 57 [Ja w] [] (Tw (A5 w) (VK w)) []:=by
 obtain⟨st,ms,c⟩:=w;cases c with
 |nil=>exact Fl (st,ms,[]) a b rfl
 |cons no r=>exact Fs st ms (no::r) no r rfl a b d
def yY(m:Int×Int):Bool:=decide (0<=m.1/\m.1<=9)&&decide (0<=m.2)
abbrev xZ(w:dC)(i:Nat):Int×Int:=w.2.2.2.1.getD i (0,0)
abbrev x0(w:dC)(i:Nat):Int:=w.2.2.2.2.getD i 0
def uk(w:dC)(i:Nat):Bool:=yY (xZ w i)&&decide (0<=x0 w i/\x0 w i<=2)
def eJ(w:dC):Bool:=decide (w.2.2.2.1.length=2)&&decide (w.2.2.2.2.length=2)&&(bh 2).all (uk w)&&fC w.1 w.2.1
def LZ(m:Int×Int):Ev X 25 [Tp.enc m] [] (dB (yY m)) []:=by
 refine Ev.bQ Tryz.func25 rfl λb=>?_
 have a:bD X [(15,od)]:=.cons oN .nil
 by_cases c:0<=m.1/\m.1<=9
 .exact aC a [(6,ab)] 100 rfl (by simp[ag,c]) (AK.bn rfl (by simp[ag,yY,c]))
 .exact aC a [(6,ae)] 100 rfl (by simp[ag];omega) (AK.bn rfl (by simp only[ag,yY,eC c];simp))
def CU(w:dC)(n:O3 w.2.1.1):Ev X 10 [Dz w] [] (dB (eJ w)) []:=by
 refine Ev.bQ Tryz.func10 rfl λo=>?_
 have a:bD X [(25,jZ Tp (λm=>dB (yY m)) λ_=>[]),(15,od),(26,tE)]:=.cons (.ox λm _=>LZ m) (.cons oN (.cons yX .nil))
 unfold eJ
 by_cases k:w.2.2.2.1.length=2
 rotate_left
 .exact aC a [(8,ab),(13,ab)] 100 rfl (by simp[ag];omega) (AK.bn rfl (by simp[ag,eC k]))
 by_cases l:w.2.2.2.2.length=2
 rotate_left
 .exact aC a [(8,ae),(13,ab)] 100 rfl (by simp[ag];omega) (AK.bn rfl (by simp[ag,eC l]))
 refine aC a [(8,ae),(13,ae)] 100 rfl (by simp[ag];omega) ?_
 rw[cn k,cn l,dN,dN];refine AK.bP 1 (λi=>i<=2/\∀ j,j<i->uk w j=ab) (λi:Nat=>[(1,.e (.one (.ptr 0 0))),(3,dI i)]) (λ_=>[.cells 35 (Nh w)]) (λi=>2-i) 0 rfl (by simp[ag.cat,ag]) rfl (by simp[ag.cat,ag,aP.same]) rfl ⟨by omega,by omega⟩ ?_
 rintro i ⟨hi,b⟩
 by_cases h:i<2
 .have f:w.2.2.2.1.getD i cH.bE=xZ w i:=rfl;have d:w.2.2.2.2.getD i cI.bE=x0 w i:=rfl;cases c:yY (xZ w i) with
  |false =>
   refine aC a [(15,ab),(25,ab),(33,ab)] 100 rfl ?_ (AK.eh (b6.zero rfl ?_))
   .simp[-ai,ag,f,c];omega
   .rw[eb h (by rw[uk,c];rfl)];simp[ag]
  |true =>
   by_cases g:0<=x0 w i/\x0 w i<=2
   .refine aC a [(15,ab),(25,ae),(33,ae)] 100 rfl ?_ (AK.aQ (i+1) rfl (by simp[ag.cat,ag]) (by simp[ag.cat,ag,aP.same]) ⟨h,fh b (by rw[uk,c,cn g];rfl)⟩ (by omega))
    simp[-ai,ag,f,d,c,bx];omega
   .refine aC a [(15,ab),(25,ae),(33,ab)] 100 rfl ?_ (AK.eh (b6.zero rfl ?_))
    .simp[-ai,ag,f,d,c];omega
    .rw[eb h (by rw[uk,eC g,Bool.and_false])];simp[ag]
 obtain rfl:i=2:=by omega
 rw[cf.2 b,dN];refine aC a [(15,ae)] 100 rfl (by simp[ag]) (AK.leaveD rfl rfl ?_)
 refine aC a [] 100 rfl ?_ (AK.bn rfl ?_)
 .simp[ag.cat,ag,cP.list_fn,cP.aH,cp.list_fn,cp.aH,cH.list_fn,cH.aH,cI.list_fn,cI.aH,n]
 .simp[ag,cP.list_fn,cp.list_fn,cH.list_fn,cI.list_fn]
end
end Go.AM.R1
namespace Go.AM
section
open Go.Conc (G)
section
variable {P:aq}{X:Cx P}{N:Nat}{Qf:Post}{K:List It}{φ:Fr}{σ:List aV}{all rest:List aw}{o:aw}
def BS(P:aq)(N:Nat)(o:aw)(φ:Fr)(σ:List aV){ι:Type}(x:ι->D)(σ':ι->List aV):Prop :=
 ∀ s a,cx N σ s φ a->aJ σ s->∃ i b s' v,(ay a.eval o).run P s.w=.ok b s'.w/\(b=.value v∨(b=.skip/\v=aj))/\dc (σ' i) s' v (x i)/\aJ (σ' i) s'/\Step σ s (σ' i) s'/\eZ s ((ay a.eval o).events P s.w #[])
def rZ.Rj{ι:Type}{x:ι->D}{σ':ι->List aV}(p:o.guard=af)(h:BS P N o φ σ x σ'):rZ X N all o φ σ x σ':=by
 intro s a f hh b k cs S i rest hb hi hK;refine zV hb hi (dv p) λm d=>?_
 have c:=hh.rely d;obtain⟨j,q,s',v,h1,h2,l,g,e,n⟩:=h m a (f.rely d hh) c;exact⟨q,s',v,h1,h2,⟨⟨σ,σ' j,c,g,e⟩,n⟩,hK j v s' l g (d.stepW.trans (e.oG c))⟩
def rZ.u9{ι:Type}{u:an}{xs:Array an}{E:Array ar}{f:aW}{cap:List C}{d:List D}{k:List aV}{σ1:ι->List aV}{res:ι->D}(p:cM X f d k res σ1)(ks:List Nat)
  (z:o.guard=af) (G:o.op=.call { callee:=.value u,args:=xs,argTypes:=E }) (v:eQ (b5 φ u)=aa (f,cap)) (l:ou (xs.toList.map (b5 φ)++fY cap)=iX ks d) (y:oF ks.length d=ab)
  (x:kL ks σ=aa k) (I:cX k=ab) (F:∀ j,cX (σ1 j)=ab) (hn:eg ks=ab) (B:∀ j,bo ks.length (σ1 j).length=ab) :
  rZ X N all o φ σ (λj=>jA (ks++mU σ.length ((σ1 j).length-ks.length)) (res j)) (λj=>ef ks (σ1 j) σ):=by
 intro s a t hh b kk cs S i rest hb hi hK;have r:=dX t u;unfold eQ at v;split at v
 case h_2=>cases v
 case h_1 f' Jc he =>
  cases v;rw[he] at r;have h:=fy r;generalize H:a.eval u=fv at h;cases h with
  |fn fs mc hl Bl f1 f2 h1 h2 r1 r2 =>
   have A:fs=[]:=hZ hl;subst A;have m:cz σ s mc (fY cap):=lP (λj c hj=>⟨f2 j,h2 j (by grind),r2 j c hj⟩) Bl
   have q:cz σ s (xs.toList.map a.eval++mc) (iX ks d):=by
    rw[<-l];exact rK ((nQ (dX t) xs.toList).append m)
   obtain⟨fn,n,g,e⟩:=p.1;exact sY hb hi (dv z) hh (λw=>(gM G n g e H w).1) (λw=>(gM G n g e H w).2) p q y x I F hn (λj=>db (B j)) hK
def BS.fresh{x y:an}{E:ar}{D:TI}(h:mj P o x y E D){k0 k m:Nat}{tx:Bool}{es es':Nat->List C}(Y:D.size=k)(V:b5 φ x=.e (.one (.c (.sl ab k0 0 es))))(hy:b5 φ y=.e (.one (.c (.sl tx k m es'))))(O:0<m)
  (hb:m*D.bytes<=140737488355328) (ZM:∀ i,i<m->∀ c∈es' i,vu c=ab) :
  BS P N o φ σ (ι:={ q:qW×List ak // ee k m es' q.2 }) (λq=>.e (.one (.v (lD q.1.1 m)))) (λq=>σ++[.dD (hU E k q.1.1 m q.1.2)]):=by
 intro s ρ hf hh;obtain⟨t,t2,i,i2,ho,hi,W,L,H⟩:=h.op;have h1:=dX hf x;rw[V] at h1;have n:=Rd.uX (k:=k0) (k':=D.size) (.inr rfl) (fy h1);have h2:=dX hf y;rw[hy] at h2;have h2:=fy h2;obtain⟨a,cap,vs,hv,Z,No,ht,hF,Tl⟩:=n.flat;have R:cap=0:=ht rfl;subst R;rw[hv] at n;have J:Rd s.M (ρ.eval y) (.sl tx D.size m es'):=by grind
 obtain⟨f,Q,g,d,I,T,r,z⟩:=im (P:=P) (ty:=o.type) hi W L H h.elem hh n J (by omega) (by grind) h.bytes
 have Nm:=iV (P:=P) (ty:=o.type) hi W L H h.elem hh n J (by omega) (by grind) h.bytes
 have e0:cR 0 es es'=es':=by funext i;simp[cR]
 rw[Y,bt,e0] at d;rw[Y] at r;rw[bt] at I z;have F:ee k m es' f:=⟨d.len,d.width,λi hi j c hj=>by
  obtain⟨u,U,u2⟩:=d.rd i hi j c hj
  grind [rG]⟩
 have A:∀ x∈f,cZ x=ab:=λx V=>by
  obtain⟨p,hp,rfl⟩:=dH V;have hk:0<k:=by grind
  have PF:=d.len;have hi:p / k<m:=pE (by grind)
  have S:p / k*k+p % k=p:=pG p k;have hj:p % k<(es' (p / k)).length:=by rw[d.width _ hi];exact jG _ hk
  obtain⟨u,U,u2⟩:=F.at' _ hi _ _ (br hj);rw[S,br hp] at U;cases U;exact(u2 s.M).cell
 let w':az:=s.w.drew.alloc (.cells (f++Q).toArray E)
 have hB:eP (σ++[.dD (hU E k (.row s.w.heap.size g) m f)]) { s with w:=w',β:=s.β++[⟨.nilFunc,[s.w.heap.size]⟩] } (.dD (hU E k (.row s.w.heap.size g) m f)) ⟨.nilFunc,[s.w.heap.size]⟩:=by
  refine⟨λB=>if B=s.w.heap.size then aa (.cells (f++Q).toArray E (0,0)) else af,⟨rfl,A,d.len,I,T,Q,r,rfl⟩,λB o l=>?_,λB=>?_,λB l o=>?_⟩
  .by_cases e:B=s.w.heap.size
   .subst e;simp only[cu] at l;cases l;exact dx s.w.drew _
   grind
  .by_cases e:B=s.w.heap.size <;> simp[e]
  .simp at l;subst l;cases O:s.M s.w.heap.size o with
   |none=>rfl
   |some v=>have:=hh.block O;omega
 have Ds:w'.heap.size=s.w.heap.size+1:=by show (s.w.drew.heap.push _).size=_;simp
 have G:aJ σ { s with w:=w' }/\Step σ s σ { s with w:=w' } :=
  hh.grow (by omega) (λb hb=>cK s.w.drew _ hb) (λb hb o=>rfl) (λb hb o v O=>by
   have:=hh.block O;omega) rfl rfl rfl
 obtain⟨g1,g2⟩:=G.1.gT G.2 rfl hh hB (λb hb=>by
   grind)
 refine⟨⟨(.row s.w.heap.size g,f),F⟩,.value (.slice (aa ⟨s.w.heap.size,0,af⟩) m g),_,_,?_,.inl rfl,Rd.val rfl,g1,g2,?_⟩
 .rw[c6 ho,hv];simp[z];rfl
 grind [c6,ey]
def AK.fresh{x y:an}{E:ar}{a:TI}(h:mj P o x y E a){p k m:Nat}{tx:Bool}{es es':Nat->List C}(n:a.size=k)(l:b5 φ x=.e (.one (.c (.sl ab p 0 es))))(f:b5 φ y=.e (.one (.c (.sl tx k m es'))))(j:0<m)
  (hb:m*a.bytes<=140737488355328) (b:∀ i,i<m->∀ c∈es' i,vu c=ab) (g:o.guard=af) (d:gy N o.dst=ab)
  (kk:∀ q:{ q:qW×List ak // ee k m es' q.2 },AK X N Qf (.ops all rest::K) .normal (lC o.dst (.e (.one (.v (lD q.1.1 m)))) φ) (σ++[.dD (hU E k q.1.1 m q.1.2)])):AK X N Qf (.ops all (o::rest)::K) .normal φ σ :=
 AK.hand _ _ g d (BS.fresh h n l f j hb b) kk
def AK.spare(E:ar)(k:Nat){c:Code}(kk:AK X N Qf (.code c::K) .normal φ (σ++[.dD (hU E k (.nil af) 0 [])])):AK X N Qf (.code c::K) .normal φ σ:=by
 refine AK.ghost (λs a b hh=>?_) kk
 obtain⟨d,g2⟩:=hh.gT (B:=.dD (hU E k (.nil af) 0 [])) (L:=⟨.nilFunc,[]⟩) (.refl _ _) rfl hh ⟨λ_=>af,⟨rfl,by simp,by simp,rfl,rfl⟩,by simp,by simp,by simp⟩ (by simp)
 exact⟨{ s with β:=s.β++[⟨.nilFunc,[]⟩] },rfl,⟨b.size,b.defers.imp λ_ h1=>h1.mono g2.ext,λu=>(b.slot u).mono g2.ext hh.len⟩,d,g2⟩
end
def P2(u:ak)(k m:Nat)(es:Nat->List C)(c a:C):Prop:=a=c∨(c=.val u/\a=.sl ae k m es)
def aJ.zW{σ1 σ2:List aV}{s:St}{E:ar}{k n:Nat}{bf:qW}{xs:List ak}{es:Nat->List C}(hh:aJ (σ1++[.dD (hU E k bf n xs)]) s)(t:ee k n es xs){f:Nat}{E0:ar}{p g:Nat}{e a:Nat->List C}(T:σ1[f]?=aa (.buf E0 p g e))
  (W6:σ2=σ1.set f (.buf E0 p g a)) (I:rN σ2.length σ2=ab) (hw:∀ i,i<g->(a i).length=(e i).length) (hc:∀ i,i<g->∀ (j:Nat) (D:C),(a i)[j]?=aa D->∃ c,(e i)[j]?=aa c/\P2 (lD bf n) k n es c D) :
  ∃ s2:St,aJ σ2 s2/\eR s s2/\(∀ v d,dc (σ1++[.dD (hU E k bf n xs)]) s v d->u7 σ2.length d=ab->dc σ2 s2 v d)/\∀ {σ0:List aV} {s0:St},cD σ0 s0 (σ1++[.dD (hU E k bf n xs)]) s->σ0.length<=σ2.length->cD σ0 s0 σ2 s2:=by
 have V:f<σ1.length:=(cr.1 T).1;have hB:(σ1++[aV.dD (hU E k bf n xs)])[σ1.length]?=aa (.dD (hU E k bf n xs)):=by simp
 obtain⟨L,M',hL,m1,Z,U,m0,m4⟩:=hU.FG hB es (λi hi=>⟨t.wid i hi,λM j c x hj hx=>by
  obtain⟨y,y1,y2⟩:=t.at' i hi j c hj
  grind⟩) s hh
 obtain⟨z,q2⟩:=hh.iP (M':=M') (w':=s.w) (B':=.dead) (L':=⟨L.v,[]⟩) hB hL rfl (bg _) (λ_ _ _=>rfl) (λb _ hb o=>Z b hb o) m1 U (by simp) rfl rfl rfl av
 have B:(σ1++[aV.dD (hU E k bf n xs)]).set σ1.length .dead=σ1++[.dead]:=by simp
 rw[B] at z q2;have A:(σ1++[aV.dead])[f]?=aa (.buf E0 p g e):=by grind
 have Q:=z.len;have m:=br (l:=s.β.set σ1.length ⟨L.v,[]⟩) (i:=f) (by
  grind)
 generalize (s.β.set σ1.length ⟨L.v,[]⟩)[f]'_=L0 at m;have F:=z.box f _ L0 A m;have q:ij (.buf E0 p g e) L0 (.buf E0 p g a) L0:=⟨λ_=>rfl,bg _⟩
 have W:(s.β.set σ1.length ⟨L.v,[]⟩).set f L0=s.β.set σ1.length ⟨L.v,[]⟩:=by
  apply iM
  grind
 obtain⟨Y,r2⟩:=z.iP (M':=M') (w':=s.w) (B':=.buf E0 p g a) (L':=L0) A m q (bg _) (λ_ _ _=>rfl) (λ_ _ _ _=>rfl) (λ_ _ _ h=>h) U
  (λb hb=>⟨.inl hb,z.lt L0 (bU m) b hb⟩) rfl rfl rfl (by
   rcases F with⟨e1,e2⟩|⟨b,c0,vs,zs,e1,e2,e3,e4,e5,J,e6⟩
   .exact .inl ⟨e1,e2⟩
   .refine .inr ⟨b,c0,vs,zs,e1,e2,e3,e4,e5,⟨J.len,λi hi=>by rw[hw i hi];exact J.width i hi,λi hi j D hj=>?_⟩,e6⟩
    obtain⟨c,O,R⟩:=hc i hi j D hj;obtain⟨u,u1,u2⟩:=J.rd i hi j c O;refine⟨u,u1,?_⟩;rcases R with rfl|⟨rfl,rfl⟩
    .exact u2
    grind [Rd.fZ])
 have G:(σ1++[aV.dead]).set f (.buf E0 p g a)=σ2++[.dead]:=by grind
 rw[G] at Y r2;have st:=q2.trans r2;refine⟨_,Y.drop (rest:=[.dead]) I,⟨rfl,m1,λb hb o=>Z b (hb L (bU hL)) o,U,λb hb=>?_⟩,λv d r hd=>(r.mono st.ext hh.len).drop (rest:=[.dead]) hd,λ{σ0 s0} S q=>(S.trans (st.oG hh)).drop (rest:=[.dead]) q⟩
 rcases hb with hb|⟨L',H,hb⟩
 .exact .inl hb
 .have h1:=iK H
  grind
def cM.zW{P:aq}{ι:Type}{X:Cx P}{f:aW}{args:List D}{σ:List aV}{res:ι->D}{σ1 σ2:ι->List aV}{E k n:Nat}{bf:ι->qW}{xs:ι->List ak}{es:Nat->List C}(h:cM X f args σ res (λi=>σ1 i++[.dD (hU E k (bf i) n (xs i))]))
  (p:∀ i,ee k n es (xs i)) (t:Nat) {E0:ar} {w l:Nat} {b:ι->Nat->List C} {a:Nat->List C} (m:∀ i,(σ1 i)[t]?=aa (.buf E0 w l (b i)))
  (e:∀ i,σ2 i=(σ1 i).set t (.buf E0 w l a)) (r:∀ i,rN (σ2 i).length (σ2 i)=ab) (d:∀ i,u7 (σ2 i).length (res i)=ab) (g:∀ i,σ.length<=(σ2 i).length)
  (y:∀ i q,q<l->(a q).length=(b i q).length) (x:∀ i q,q<l->∀ (j:Nat) (u:C),(a q)[j]?=aa u->∃ c,(b i q)[j]?=aa c/\P2 (lD (bf i) n) k n es c u):cM X f args σ res σ2:=by
 refine⟨h.1,λs vs hr hh S cs hS=>h.2 s vs hr hh S cs λi fr v s' hl mQ lb st=>?_⟩
 obtain⟨s2,c1,c2,c3,c4⟩:=lb.zW (p i) (m i) (e i) (r i) (y i) (x i);exact .ghost c2 (hS i fr v s2 (hl.mono c2.mem) (c3 v _ mQ (d i)) c1 (c4 st (g i)))
end
end Go.AM
namespace Go.AM.R1
section
open Go.Proofs
variable {X:Cx ah}
def Qp{o:aw}{x y:an}(h:o.op=.call { callee:=.builtin .append,args:=#[x,y],argTypes:=#[83,83] }):mj ah o x y 88 i88 :=
 ⟨⟨83,83,i83,i83,h,Ys,rfl,Ys,rfl⟩,g88,by decide,by decide⟩
def Gs(l:List cC)(n:Nat):∀ i,i<n->∀ c∈dK.fn l i,vu c=ab:=by
 intro i _ c a;have:dK.fn l i=[.int .i64 (l.getD i dK.bE).1,.str (l.getD i dK.bE).2]:=rfl;rw[this] at a;rcases fb.1 a with rfl|a
 .rfl
 .rcases fb.1 a with rfl|a
  .rfl
  .cases a
abbrev Own(l:List cC):Type:={ q:qW×List ak // ee 2 l.length (dK.fn l) q.2 }
abbrev HT(l:List cC)(q:Own l):aV:=.dD (hU 88 2 q.1.1 l.length q.1.2)
abbrev ET(l:List cC)(q:Own l):C:=.val (lD q.1.1 l.length)
def HU(l:List cC)(a:0<l.length)(h:l.length<=4000000):cM (ι:=Own l) X 165 [dK.sl l] [] (λq=>.e (.one (.c (ET l q)))) (λq=>[HT l q]):=by
 refine cM.oy Tryz.func165 rfl rfl rfl λg=>?_
 refine bk rfl av ?_;refine AK.B4 tok rfl rfl rfl rfl rfl rfl λb f=>?_
 cases b with
 |true=>have:=f rfl;omega
 |false =>
  refine aX [] 7 rfl av ?_;refine AK.fresh (Qp rfl) rfl rfl rfl a (by show _*24<=_;omega) (Gs l _) rfl rfl λq=>?_
  refine bk rfl av ?_;refine AK.lh q (AK.dJ [0] rfl ?_ rfl rfl rfl (λj d=>absurd d (by simp)))
  simp[ag]
def xV(p:bw)(a:0<p.2.length)(b:p.2.length<=4000000):cM (ι:=Own p.2) X 111 [xQ p] [] (λq=>.e (.agg [.c (.int .i64 p.1),.c (ET p.2 q)])) (λq=>[HT p.2 q]):=by
 refine cM.ga tok Tryz.func111 rfl rfl rfl λf=>?_
 refine bk rfl av ?_;refine AK.cP (HU p.2 a b) [] rfl (λ_=>rfl) ?_
 intro q;refine bk rfl av ?_;refine AK.dE q [2] rfl rfl rfl rfl rfl rfl rfl rfl ?_ rfl rfl rfl rfl (λj d=>absurd d (by simp))
 simp[ag,ag.cat,aP.same]
end
end Go.AM.R1
namespace Go.AM
section
open Go.Conc (G)
def N4(p:Nat->Bool):List Nat->Bool
 |[]=>ae
 |e::r=>match p e with|true=>ab|false=>N4 p r
def F5{p:Nat->Bool}:∀ {l:List Nat},N4 p l=ab->∃ e∈l,p e=ab
 |[],h=>by cases h
 |e::r,h=>by
  simp only[N4] at h;split at h
  .rename_i a;exact⟨e,by simp,a⟩
  .obtain⟨b,c,d⟩:=F5 h;grind
def wq(all:List aw)(k:Nat):Nat->List Nat->Bool
 |0,l=>fK k l
 |f+1,l=>match fK k l with|true=>ab|false=>N4 (λe=>wq all k f (bS (all.getD e fV).after.toList)) l
def th{all:List aw}{k:Nat}{L:Nat->Prop}(d:∀ i,i<all.length->L i->∀ e∈bS (all.getD i fV).after.toList,L e):∀ {f:Nat}{l:List Nat},wq all k f l=ab->(∀ e∈l,L e)->L k
 |0,l,h,a=>a k (BG h)
 |f+1,l,h,a=>by
  simp only[wq] at h;split at h
  .rename_i j;exact a k (BG j)
  .obtain⟨e,m,c⟩:=F5 h;rcases cJ e all.length with g|g
   .exact th d c (d e g (a e m))
   .have:all.getD e fV=fV:=by grind
    rw[this] at c;exact th d c (λn b=>by simp[fV,bS] at b)
def wu(all:List aw)(f:Nat)(l:List Nat):Nat->Bool
 |0=>ab
 |n+1=>match wq all n f l with|true=>wu all f l n|false=>ae
def yv{all:List aw}{f:Nat}{l:List Nat}:∀ {n:Nat},wu all f l n=ab->∀ k,k<n->wq all k f l=ab
 |0,_,k,b=>by omega
 |n+1,h,k,b=>by
  simp only[wu] at h;split at h
  .rename_i a
   by_cases e:k=n
   .subst e;exact a
   .exact yv h k (by omega)
  .cases h
def Ag(all:List aw)(f:Nat):Nat->Nat->Bool
 |_,0=>ab
 |i,r+1=>match wu all f (bS (all.getD i fV).after.toList) i with|true=>Ag all f (i+1) r|false=>ae
def yw{all:List aw}{f:Nat}:∀ {i r:Nat},Ag all f i r=ab->∀ q,i<=q->q<i+r->wu all f (bS (all.getD q fV).after.toList) q=ab
 |i,0,_,q,b,c=>by omega
 |i,r+1,h,q,b,c=>by
  simp only[Ag] at h;split at h
  .rename_i a
   by_cases e:q=i
   .subst e;exact a
   .exact yw h q (by omega) (by omega)
  .cases h
section
variable {P:aq}{X:Cx P}{N:Nat}{φ:Fr}{σ:List aV}
def Hh{ι:Type}(c:Nat)(pre:Nat->Bool)(x:Nat->D)(y:ι->Nat->D)(j:ι)(i:Nat):D:=match Nat.blt i c with|true=>qI pre x y j i|false=>.any
def AK.N5{ι:Type}(v:P.follows Departure.mixedOrders=ab)(m c f:Nat)(pre:Nat->Bool)(x:Nat->D)(y:ι->Nat->D)(σ':ι->List aV){ops:Array aw}{id:Nat}{K:List It}{Qf:Post}
  (d:mx ops.toList=ab) (b:r5 ops.toList 0=ab) (l:n5 N ops.toList=ab) (t:pre m=ae) (r:xO pre m ops.toList 0=ab)
  (u:Nat.blt c ops.toList.length=ab) (n:Nat.blt m c=ab) (e:∀ i,pre i=ab->i<c) (Tn:Ag ops.toList f c (ops.toList.length-c)=ab)
  (one:qG X N ops.toList φ σ x pre ops.toList 0) (two:∀ j,qH X N ops.toList φ (σ' j) (Hh c pre x y j) m (ops.toList.take c) 0)
  (Hg:rZ X N ops.toList (ops.toList.getD m fV) (mZ ops.toList φ x m) σ (λj=>Hh c pre x y j m) σ')
  (k:∀ j,AK X N Qf (.ops ops.toList (ops.toList.drop c)::K) .normal (M8 ops.toList φ (Hh c pre x y j)) (σ' j)):AK X N Qf (.code (.region id ops ab)::K) .normal φ σ:=by
 have u:=db u;have n:=db n;have:=AW.reg (X:=X) (N:=N) (φ:=φ) (σ:=σ) v (all:=ops.toList) c (λa:Option ι=>a.elim x (Hh c pre x y)) (λa _=>a.elim σ σ') (λa D=>a.isSome=D m/\(a=af->∀ i,D i=ab->pre i=ab)) af ⟨rfl,λ_ _ h=>by cases h⟩ rfl d b l (by omega)
  (λi h1 h2 L z g k w=>th z (yv (yw Tn i h1 (by omega)) k w) g)
  (λa D s q i h1 h2=>by
   obtain⟨j,rfl⟩:=sd s n q;have:Nat.blt i c=ae:=by
    cases hb:Nat.blt i c with
    |false=>rfl
    |true=>have:=db hb;omega
   simp only[Option.elim,Hh,this])
  (Af (S:=λj _=>σ' j) t r (λj i g=>by
    have:Nat.blt i c=ab:=qZ (e i g);simp only[Hh,this,qI,g])
   (λi o hi g=>by have:=one.get i o hi (by rwa [bt]);rwa [bt] at this)
   (λj D i o hi Bq sV _ _=>by
    have p:(ops.toList.take c)[i]?=aa o:=by grind
    have:=(two j).get i o p (by rwa [bt]);rwa [bt] at this)
   (λo A=>by grind) (λ_ _ _=>rfl))
  (Q:=AK X N Qf K) (λa D s q=>by
   obtain⟨j,rfl⟩:=sd s n q;exact k j) id
 rw[oP] at this;exact this
end
end
end Go.AM
namespace Go.AM.R1
section
open Go.Proofs
variable {X:Cx ah}
def Dy(ps:List bw)(i0:Nat)(u:ak)(j:Nat):C:=if j=i0 then .val u else .sl ae 2 (ps.getD j (0,[])).2.length (dK.fn (ps.getD j (0,[])).2)
def ja(ps:List bw)(i0:Nat)(u:ak)(j:Nat):List C:=[.int .i64 (ps.getD j (0,[])).1,Dy ps i0 u j]
def yT{ps:List bw}{i0 i:Nat}{u:ak}(h:i≠i0):aP (i+1) (cR i (ja ps i0 u) (λq=>[cP.enc (ps.getD i (0,[]))].getD q [])) (ja ps i0 u):=λj a=>by
 unfold cR;split
 .rfl
 .have:j=i:=by omega
  subst this;rw[rv];simp only[ja,Dy,aY h];rfl
def wY{ps:List bw}{i0:Nat}{u u':ak}:aP (i0+1) (cR i0 (ja ps i0 u') (λq=>[[.int .i64 (ps.getD i0 (0,[])).1,.val u]].getD q [])) (ja ps i0 u):=λj a=>by
 unfold cR;split
 .simp only[ja,Dy,aY (show j≠i0 by omega)]
 .have:j=i0:=by omega
  subst this;rw[rv];simp only[ja,Dy,bd];rfl
abbrev S3:Type:=Nat×qW×Nat×List ak
def I3(ps:List bw)(i0:Nat)(x:S3):Prop:=x.1<=ps.length/\((x.1<=i0/\x.2.2.1=0)∨(i0<x.1/\x.2.2.1=(ps.getD i0 (0,[])).2.length/\ee 2 (ps.getD i0 (0,[])).2.length (dK.fn (ps.getD i0 (0,[])).2) x.2.2.2))
abbrev Yt(x:S3):aV:=.dD (hU 88 2 x.2.1 x.2.2.1 x.2.2.2)
abbrev u3(x:S3):ak:=lD x.2.1 x.2.2.1
def wZ(s:aZ)(i0:Nat)(C:i0<s.1.length)(l:0<(s.1.getD i0 (0,[])).2.length)(B:s.1.length<=4000000)(d:∀ p∈s.1,p.2.length<=4000000)(A:s.2.1.length<=4000000)(o:iT s)(z:s.2.2.length<=4000000) :
  cM (ι:=Own (s.1.getD i0 (0,[])).2) X 72 [eH s] [] (λ_=>.e (.agg [.bp 0 (.sl s.1.length 2 0 s.1.length),.bp 1 (.sl s.2.1.length 2 0 s.2.1.length),.c (.sl ae 2 s.2.2.length (cH.fn s.2.2))]))
   (λq=>[.buf 85 2 s.1.length (ja s.1 i0 (lD q.1.1 (s.1.getD i0 (0,[])).2.length)),.buf 64 2 s.2.1.length (cp.fn s.2.1),HT (s.1.getD i0 (0,[])).2 q]):=by
 refine cM.ga tok Tryz.func72 rfl rfl rfl λE=>?_
 have a:bD X [(111,Gk),(112,Gl)]:=.cons K5 (.cons K6 .nil);refine aC a [(1000002,ab)] 100 rfl av ?_;refine AK.nn 2 0 85 2 (cP.fn []) rfl rfl ?_;refine AK.nn 2 1 64 2 (cp.fn []) rfl rfl ?_;refine AK.spare 88 2 ?_;refine aC a [] 100 rfl av ?_;refine AK.bP 6 (I3 s.1 i0) (λx:S3=>[(1,.e (.one (.ptr 0 0))),(2,.e (.one (.ptr 1 0))),(3,.e (.one (.ptr 2 0))),(9,cP.sl s.1),(10,dI s.1.length),(11,dI x.1)])
  (λx=>[.cells 27 [.c (.sl ae 2 s.1.length (cP.fn s.1)),.c (.sl ae 2 s.2.1.length (cp.fn s.2.1)),.c (.sl ae 2 s.2.2.length (cH.fn s.2.2))],.cells 27 [dr,dr,dr],.cells 27 [.bp 3 (.sl x.1 2 0 x.1),.bp 4 (.sl 0 2 0 0),dr],.buf 85 2 x.1 (ja s.1 i0 (u3 x)),.buf 64 2 0 (cp.fn []),Yt x]) (λx=>s.1.length-x.1) (0,.nil af,0,[]) rfl ?_ rfl ?_ rfl ⟨by omega,.inl ⟨by omega,rfl⟩⟩ ?_
 .simp[ag.cat,ag,aP.same]
 .simp[ag.cat,ag,aP]
 rintro⟨i,bf,m,xs⟩ ⟨hi,r⟩;simp only at hi r
 by_cases h:i<s.1.length
 .have f:s.1.getD i (0,[])∈s.1:=by grind
  have b:s.1.getD (i:Int).toNat cP.bE=s.1.getD i (0,[]):=by grind
  by_cases v:i=i0
  .subst v;have t:m=0:=by rcases r with⟨_,D⟩|⟨F,_⟩ <;> omega
   have w:=d _ f;refine aC a [(12,ab),(1000005,ab)] 100 rfl ?_ ?_
   .simp only[ag,bx,ba,aF,aE];and_intros <;> omega
   rw[b];generalize n:s.1.getD i (0,[])=p at *;refine AK.N5 (ι:=Own p.2) ei 3 5 4 (λk=>bo k 2) (λk=>[.e (.one (.ptr 2 0)),.e (.one (.bp 3 (.sl i 2 0 i))),xQ p].getD k .any) (λq k=>[.any,.any,.any,.e (.agg [.c (.int .i64 p.1),.c (ET p.2 q)]),.e (.one (.c (.sl ab 2 1 (λj=>[[.int .i64 p.1,ET p.2 q]].getD j []))))].getD k .any)
    (λq=>[.cells 27 [.c (.sl ae 2 s.1.length (cP.fn s.1)),.c (.sl ae 2 s.2.1.length (cp.fn s.2.1)),.c (.sl ae 2 s.2.2.length (cH.fn s.2.2))],.cells 27 [dr,dr,dr],.cells 27 [.bp 3 (.sl i 2 0 i),.bp 4 (.sl 0 2 0 0),dr],.buf 85 2 i (ja s.1 i (lD bf m)),.buf 64 2 0 (cp.fn []),.dD (hU 88 2 bf m xs),.cells 85 [.c (.int .i64 p.1),.c (.sl ae 2 p.2.length (dK.fn p.2))],HT p.2 q])
    rfl rfl rfl rfl rfl rfl rfl (λk h=>by have:=db h;omega) rfl
    ⟨OA.bT tok a rfl,OA.bT tok a rfl,OA.bT tok a rfl,av,av,av,av,av,av⟩
    (λq=>⟨OA.bT tok a rfl,OA.bT tok a rfl,OA.bT tok a rfl,av,OA.bT tok a rfl,av⟩)
    (rZ.u9 (xV p l w) [] rfl rfl rfl rfl rfl rfl rfl (λ_=>rfl) rfl (λ_=>rfl)) λq=>?_
   refine aC a [(1000006,ab)] 100 rfl ?_ ?_
   .simp only[ag,show i85.bytes=32 from rfl,aF,aE];grind
   refine AK.swap 5 7 (by decide) rfl rfl (λ_ _ h=>h.1) (λ_ _ h=>h.1) ?_
   refine aC a [] 100 rfl ?_ (AK.aQ (i+1,q.1.1,p.2.length,q.1.2) rfl ?_ ?_ ?_ ?_)
   .simp only[ag,bx,aE];omega
   .simp[ag.cat,ag,aP.same]
   .have e:=wY (ps:=s.1) (i0:=i) (u:=lD q.1.1 p.2.length) (u':=lD bf m);rw[n] at e;simp only[ag.cat,ag,aE,aF];exact⟨⟨aP.same,aP.same,aP.same⟩,⟨aP.same,aP.same,aP.same⟩,⟨rfl,aP.same⟩,e,aP.same⟩
   .refine⟨by grind,.inr ⟨by grind,?_⟩⟩
    grind
   grind
  .refine aC a [(12,ab)] 100 rfl ?_ (AK.aQ (i+1,bf,m,xs) rfl ?_ ?_ ?_ ?_)
   .have q:=d _ f;simp only[ag,b,dK.list_fn,bx];exact⟨by omega,av,av,show (i+1)*32<=_ by omega,dK.aH _,q,by omega,by omega,cn (by omega)⟩
   .simp[ag.cat,ag,aP.same]
   .have e:=yT (ps:=s.1) (u:=lD bf m) v;simp only[ag.cat,ag,b,dK.list_fn,aE,aF];exact⟨⟨aP.same,aP.same,aP.same⟩,⟨aP.same,aP.same,aP.same⟩,⟨rfl,aP.same⟩,e,aP.same⟩
   .refine⟨by grind,?_⟩
    grind
   grind
 obtain rfl:i=s.1.length:=by omega
 obtain⟨_,t,g⟩:i0<s.1.length/\m=(s.1.getD i0 (0,[])).2.length/\ee 2 (s.1.getD i0 (0,[])).2.length (dK.fn (s.1.getD i0 (0,[])).2) xs:=by
  grind
 subst t;clear r;generalize s.1.getD i0 (0,[])=p at *;refine aC a [(12,ae)] 100 rfl (by simp[ag]) (AK.leaveD rfl rfl ?_)
 refine aC a [] 100 rfl av ?_;refine AK.bP 6 (λi=>i<=s.2.1.length) (λi:Nat=>[(1,.e (.one (.ptr 0 0))),(2,.e (.one (.ptr 1 0))),(3,.e (.one (.ptr 2 0))),(24,cp.sl s.2.1),(25,dI s.2.1.length),(26,dI i)])
  (λi=>[.cells 27 [.c (.sl ae 2 s.1.length (cP.fn s.1)),.c (.sl ae 2 s.2.1.length (cp.fn s.2.1)),.c (.sl ae 2 s.2.2.length (cH.fn s.2.2))],.cells 27 [dr,dr,dr],.cells 27 [.bp 3 (.sl s.1.length 2 0 s.1.length),.bp 4 (.sl i 2 0 i),dr],.buf 85 2 s.1.length (ja s.1 i0 (lD bf p.2.length)),.buf 64 2 i (cp.fn (s.2.1.take i)),.dD (hU 88 2 bf p.2.length xs)]) (λi=>s.2.1.length-i) 0 rfl ?_ rfl ?_ rfl (by omega) ?_
 .simp[ag.cat,ag,aP.same]
 .simp[ag.cat,ag,aP.same,aP]
 intro i hi
 by_cases h:i<s.2.1.length
 .have f:s.2.1.getD i (0,[])∈s.2.1:=by grind
  have b:s.2.1.getD (i:Int).toNat cp.bE=s.2.1.getD i (0,[]):=by grind
  refine aC a [(27,ab)] 100 rfl ?_ (AK.aQ (i+1) rfl ?_ ?_ ?_ ?_)
  .have q:=o _ f;simp only[ag,b,cL.list_fn,bx];exact⟨by omega,av,av,show (i+1)*32<=_ by omega,cL.aH _,q.1,q.2,by omega,by omega,cn (by omega)⟩
  .simp[ag.cat,ag,aP.same]
  .have e:=cp.gF s.2.1 h (0,[]);simp only[ag.cat,ag,b,cL.list_fn,aE,aF];exact⟨⟨aP.same,aP.same,aP.same⟩,⟨aP.same,aP.same,aP.same⟩,⟨rfl,aP.same⟩,aP.same,e⟩
  .grind
  .omega
 obtain rfl:i=s.2.1.length:=by omega
 rw[b7];refine aC a [(27,ae)] 100 rfl (by simp[ag]) (AK.leaveD rfl rfl ?_)
 refine aC a [] 100 rfl av ?_;refine AK.cQ (wL s.2.2 z) [] rfl ?_;refine aC a [] 100 rfl av ?_;refine AK.dE ⟨(bf,xs),g⟩ [3,4,5] rfl rfl rfl rfl rfl rfl rfl rfl ?_ rfl rfl rfl rfl (λj y=>absurd y (by simp))
 .simp[ag.cat,ag,aP.same]
abbrev Yu(s:aZ)(l:c8)(i0:Nat)(b cap n0:Nat)(a:List ak):List aV:=Tr s l [.buf 85 2 s.1.length (ja s.1 i0 (.slice (aa ⟨b,0,af⟩) n0 cap)),.buf 64 2 s.2.1.length (cp.fn s.2.1),.dD (hU 88 2 (.row b cap) n0 a)] (aB 3 s.1.length s.1.length) (aB 4 s.2.1.length s.2.1.length) (.c (Dx s.2.2))
def dn(xs:List cC)(m:Nat)(t:Bs):List cC:=xs.set m ((xs.getD m (0,[])).1,t)
def su{xs:List cC}{m:Nat}{t:Bs}{d vs:List ak}(h:ee 2 xs.length (dK.fn xs) d)(f:m<xs.length)(g:mS vs [.c (.str t)]):ee 2 xs.length (dK.fn (dn xs m t)) (d.take (m*2+1)++vs++d.drop (m*2+1+vs.length)):=by
 refine ee.eX h m 1 f g (by simp) (λj i b=>?_) rfl λq c a=>?_
 .simp[hY.fn,sQ,dn,ai,uU,mi b]
 .have e:dK.fn (dn xs m t) m=[.int .i64 (xs.getD m (0,[])).1,.str t]:=by
   simp[hY.fn,sQ,dn,ai,uU,f];rfl
  rw[e] at a;rcases q with _|_|q
  .simp at a;subst a;exact .inr ⟨by omega,rfl⟩
  .grind
  .simp at a
def LC(s:aZ)(l:c8)(C:s.1.length<=4000000)(i0 b cap m:Nat)(xs:List cC)(z:(s.1.getD i0 (0,[])).2=xs)(o:i0<s.1.length)(n:(s.1.getD i0 (0,[])).1=l.2.1)(p:∀ j,j<s.1.length->j≠i0->(s.1.getD j (0,[])).1≠l.2.1)(D:l.2.2.1=m)(k:m<xs.length)(A:xs.length<=4000000)(g:List ak)(u:ee 2 xs.length (dK.fn xs) g) :
  cM (ι:={ q:List ak // ee 2 xs.length (dK.fn (dn xs m l.2.2.2)) q }) X 121 [.e (.one (.ptr 6 0)),Aw (tu l)] (Yu s l i0 b cap xs.length g) (λ_=>.eK []) (λq=>Yu s l i0 b cap xs.length q.1):=by
 refine cM.mV Tryz.func121 rfl rfl rfl (AK.of_code ?_);refine bk rfl av ?_;refine AK.bP 7 (λx:Nat×List ak=>x.1<=s.1.length/\(x.1<=i0->x.2=g)/\(i0<x.1->ee 2 xs.length (dK.fn (dn xs m l.2.2.2)) x.2)) (λx=>[(0,.e (.one (.ptr 6 0))),(1,Aw (tu l)),(8,.e (.one (aB 3 s.1.length s.1.length))),(9,dI s.1.length),(10,dI x.1)]) (λx=>Yu s l i0 b cap xs.length x.2) (λx=>s.1.length-x.1) (0,g) rfl ?_ rfl ?_ rfl ⟨by omega,λ_=>rfl,λh=>by omega⟩ ?_
 .simp[ag.cat,ag,aP.same]
 .simp[ag.cat,ag,aP.same]
 rintro⟨i,a⟩ ⟨hi,d,f⟩;simp only at hi d f;have v:0+(i:Int).toNat=i:=by omega
 by_cases h:i<s.1.length
 .by_cases r:i=i0
  .subst r;obtain rfl:=d (bg _);refine aX [(11,ab)] 12 rfl ?_ ?_
   .simp only[ag,ba,aF,aE];and_intros <;> omega
   refine AK.law (bH.BK tok (e:=.agg [.c (.int .i64 l.2.1),.c (.val (.slice (aa ⟨b,0,af⟩) xs.length cap))]) rfl rfl rfl rfl rfl ?_ ?_) rfl rfl ?_
   .show aa (E1.agg [.c (.int .i64 (s.1.getD (0+(i:Int).toNat) (0,[])).1),.c (Dy s.1 i (.slice (aa ⟨b,0,af⟩) xs.length cap) (0+(i:Int).toNat))])=_;rw[v,n,Dy,bd rfl]
   .show 0+(i:Int).toNat<_;omega
   refine aX [(19,ab),(24,ab),(31,ab)] 100 rfl ?_ ?_
   .simp only[ag,bx,ba,eB,aF,aE];and_intros <;> omega
   have B:=u.len;have y:0+l.2.2.1.toNat*2+1=m*2+1:=by omega
   refine AK.DS tok 5 rfl rfl rfl rfl rfl rfl rfl ?_ rfl rfl λvs IZ=>?_
   .show 0+l.2.2.1.toNat*2+1+1<=a.length;omega
   have w:=su u k IZ;refine bk rfl ?_ (AK.aQ (i+1,a.take (m*2+1)++vs++a.drop (m*2+1+vs.length)) rfl ?_ ?_ ?_ ?_)
   .simp only[ag,bx,aE];omega
   .simp[ag.cat,ag,aP.same]
   .simp only[ag.cat,ag,aP.same,aE,aF];show hU 88 2 _ _ (List.take (0+l.2.2.1.toNat*2+1) a++vs++List.drop (0+l.2.2.1.toNat*2+1+vs.length) a)=_;rw[y]
   .grind
   grind
  .have t:=p i h r;refine aX [(11,ab)] 12 rfl ?_ ?_
   .simp only[ag,ba,aF,aE];and_intros <;> omega
   refine AK.law (bH.BK tok (e:=.agg [.c (.int .i64 (s.1.getD i (0,[])).1),.c (.sl ae 2 (s.1.getD i (0,[])).2.length (dK.fn (s.1.getD i (0,[])).2))]) rfl rfl rfl rfl rfl ?_ ?_) rfl rfl ?_
   .show aa (E1.agg [.c (.int .i64 (s.1.getD (0+(i:Int).toNat) (0,[])).1),.c (Dy s.1 i0 (.slice (aa ⟨b,0,af⟩) xs.length cap) (0+(i:Int).toNat))])=_;rw[v,Dy,aY r]
   .show 0+(i:Int).toNat<_;omega
   refine aX [(19,ae),(24,ae),(31,ae)] 100 rfl ?_ (AK.aQ (i+1,a) rfl ?_ ?_ ?_ ?_)
   .simp only[ag,bx,dt,aF,aE];exact⟨by omega,t⟩
   .simp[ag.cat,ag,aP.same]
   .simp[ag.cat,ag,aP.same]
   .grind
   grind
 obtain rfl:i=s.1.length:=by omega
 refine aX [(11,ae)] 100 rfl (by simp[ag]) (AK.leaveD rfl rfl ?_)
 refine bk rfl av ?_;exact⟨⟨a,f o⟩,.inr rfl,rfl,rfl,_,_,_,rfl,rfl,rfl,av⟩
structure Ts (s:aZ)(l:c8)(i0 m:Nat):Prop where
 i:i0<s.1.length
 no:(s.1.getD i0 (0,[])).1=l.2.1
 ne:∀ j,j<s.1.length->j≠i0->(s.1.getD j (0,[])).1≠l.2.1
 at':l.2.2.1=m
 ml:m<(s.1.getD i0 (0,[])).2.length
def ue(xs:List cC)(m:Nat)(t:Bs):(dn xs m t).length=xs.length:=by simp[dn]
def nw{s:aZ}{i0:Nat}(h:i0<s.1.length):s.1.getD i0 (0,[])∈s.1:=by grind
set_option maxRecDepth 20000 in
def AP(s:aZ)(l:c8)(d:dL s)(h:l.1=3)(i0 m:Nat)(a:Ts s l i0 m) :
  cM (ι:={ q:qW×List ak // ee 2 (s.1.getD i0 (0,[])).2.length (dK.fn (dn (s.1.getD i0 (0,[])).2 m l.2.2.2)) q.2 }) X 42 [eH s,gh l] []
   (λ_=>.e (.agg [aB 0 s.1.length s.1.length,aB 1 s.2.1.length s.2.1.length,.c (Dx s.2.2)]))
   (λq=>[.buf 85 2 s.1.length (ja s.1 i0 (lD q.1.1 (s.1.getD i0 (0,[])).2.length)),.buf 64 2 s.2.1.length (cp.fn s.2.1),.dD (hU 88 2 q.1.1 (s.1.getD i0 (0,[])).2.length q.1.2)]):=by
 have g:=a.ml;have f:=d.p2 _ (nw a.i);refine cM.ga tok Tryz.func42 rfl rfl rfl λt=>?_
 refine bk rfl av ?_;refine AK.cP (wZ s i0 a.i (by omega) d.p d.p2 d.sn d.s2 d.h) [] rfl (λ_=>rfl) ?_
 rintro⟨⟨bf,o⟩,k⟩;refine AK.Jp (hU.len (l:=5) rfl) λj=>?_
 obtain⟨b,cap,rfl⟩:=j.2.2.1 (by omega)
 refine bk rfl av ?_;refine AK.cQ (wO l h) [] rfl ?_;refine bk rfl av ?_;refine AK.nP (LC s l d.p i0 b cap m _ rfl a.i a.no a.ne a.at' g f o k) rfl rfl rfl rfl ?_ rfl ?_
 .simp[ag,ag.cat,aP.same]
 rintro⟨r,n⟩;refine bk rfl av ?_;refine AK.dE ⟨(.row b cap,r),n⟩ [3,4,5] rfl rfl rfl rfl rfl rfl rfl rfl ?_ rfl rfl rfl rfl fO;simp[ag.cat,ag,aP.same]
abbrev gL(s:aZ)(l:c8)(i0 m:Nat):aZ:=(s.1.set i0 ((s.1.getD i0 (0,[])).1,dn (s.1.getD i0 (0,[])).2 m l.2.2.2),s.2.1,s.2.2)
def HV{f:aW}{args:List D}(s:aZ)(l:c8)(i0 m:Nat)(hi:i0<s.1.length)
  (a:cM (ι:={ q:qW×List ak // ee 2 (s.1.getD i0 (0,[])).2.length (dK.fn (dn (s.1.getD i0 (0,[])).2 m l.2.2.2)) q.2 }) X f args []
   (λ_=>.e (.agg [aB 0 s.1.length s.1.length,aB 1 s.2.1.length s.2.1.length,.c (Dx s.2.2)]))
   (λq=>[.buf 85 2 s.1.length (ja s.1 i0 (lD q.1.1 (s.1.getD i0 (0,[])).2.length)),.buf 64 2 s.2.1.length (cp.fn s.2.1),.dD (hU 88 2 q.1.1 (s.1.getD i0 (0,[])).2.length q.1.2)])) :
  Ev X f args [] (eH (gL s l i0 m)) []:=by
 generalize v:s.1.getD i0 (0,[])=p at *;have i:∀ j,j≠i0->cP.fn (gL s l i0 m).1 j=cP.fn s.1 j:=λj g=>by
  simp[hY.fn,sQ,ai,uU,mi g]
 have o:cP.fn (gL s l i0 m).1 i0=[.int .i64 p.1,.sl ae 2 p.2.length (dK.fn (dn p.2 m l.2.2.2))]:=by
  have:(gL s l i0 m).1.getD i0 cP.bE=(p.1,dn p.2 m l.2.2.2):=by
   grind
  show cP.enc ((gL s l i0 m).1.getD i0 cP.bE)=_;rw[this];show [C.int .i64 p.1,C.sl ae 2 (dn p.2 m l.2.2.2).length (dK.fn (dn p.2 m l.2.2.2))]=_;rw[ue]
 have t:=cM.zW (σ1:=λq:{ q:qW×List ak // ee 2 p.2.length (dK.fn (dn p.2 m l.2.2.2)) q.2 }=>[.buf 85 2 s.1.length (ja s.1 i0 (lD q.1.1 p.2.length)),.buf 64 2 s.2.1.length (cp.fn s.2.1)]) (σ2:=λ_=>[.buf 85 2 s.1.length (cP.fn (gL s l i0 m).1),.buf 64 2 s.2.1.length (cp.fn s.2.1)]) (E:=88) (k:=2) (n:=p.2.length) (bf:=λq=>q.1.1) (xs:=λq=>q.1.2) a (λq=>q.2) 0 (λ_=>rfl) (λ_=>rfl) (λ_=>rfl) (λ_=>rfl) (λ_=>gD _)
  (λq j g=>by
   by_cases h:j=i0
   .subst h;rw[o];rfl
   .rw[i j h];rfl)
  (λq j g r u d=>by
   by_cases h:j=i0
   .subst h;rw[o] at d;have:ja s.1 j (lD q.1.1 p.2.length) j=[.int .i64 p.1,.val (lD q.1.1 p.2.length)]:=by simp only[ja,Dy,cu,v]
    rw[this];rcases r with _|_|r
    .simp at d;subst d;exact⟨_,rfl,.inl rfl⟩
    .simp at d;subst d;exact⟨_,rfl,.inr ⟨rfl,rfl⟩⟩
    .simp at d
   .rw[i j h] at d;have:ja s.1 i0 (lD q.1.1 p.2.length) j=cP.fn s.1 j:=by simp only[ja,Dy,aY h];rfl
    rw[this];exact⟨u,d,.inl rfl⟩)
 have b:=cM.iY (σ1:=λ_=>[.buf 85 2 s.1.length (cP.fn (gL s l i0 m).1)]) (E:=64) (k:=2) (n:=λ_=>s.2.1.length) (es:=λ_=>cp.fn s.2.1) t (λ_=>rfl) (λ_=>?_) (λ_=>rfl) (λ_=>gD _)
 have c:=cM.iY (σ1:=λ_=>[]) (E:=85) (k:=2) (n:=λ_=>s.1.length) (es:=λ_=>cP.fn (gL s l i0 m).1) b (λ_=>rfl) (λ_=>?_) (λ_=>rfl) (λ_=>bg _)
 refine(c.le (res':=λ_=>eH (gL s l i0 m)) (λ_=>rfl) (λ_=>?_)).one
 .simp only[ag.cat,ag,aE,aF,nL];exact⟨aP.same,aP.same,aP.same⟩
 .simp[ag.cat,ag]
 .simp[ag.cat,ag]
set_option maxRecDepth 20000 in
def Cz(s:aZ)(l:c8)(b:dL s)(h:l.1=3)(i0 m:Nat)(a:Ts s l i0 m):Ev X 42 [eH s,gh l] [] (eH (gL s l i0 m)) [] :=
 HV s l i0 m a.i (AP s l b h i0 m a)
abbrev OR(s:aZ)(i:Nat)(es:Nat->List C)(j:Nat)(q:List cy)(bf:qW)(m:Nat)(xs:List ak):List aV:=[HJ s,.cells 27 [dr,dr,dr],.buf 85 2 i es,.buf 64 2 j (cp.fn q),.buf 90 2 s.2.2.length (cH.fn s.2.2),.cells 27 [.bp 2 (.sl i 2 0 i),.bp 3 (.sl j 2 0 j),.bp 4 (.sl s.2.2.length 2 0 s.2.2.length)],.dD (hU 88 2 bf m xs)]
def EU(s:aZ)(i0:Nat)(C:i0<s.1.length)(b:0<(s.1.getD i0 (0,[])).2.length)(B:s.1.length<=4000000)(l:∀ p∈s.1,p.2.length<=4000000)(A:s.2.1.length<=4000000)(o:iT s)(G:s.2.2.length<=4000000) :
  cM (ι:=Own (s.1.getD i0 (0,[])).2) X 38 [eH s] [] (λ_=>.e (.agg [.bp 0 (.sl s.1.length 2 0 s.1.length),.bp 1 (.sl s.2.1.length 2 0 s.2.1.length),.bp 2 (.sl s.2.2.length 2 0 s.2.2.length)]))
   (λq=>[.buf 85 2 s.1.length (ja s.1 i0 (lD q.1.1 (s.1.getD i0 (0,[])).2.length)),.buf 64 2 s.2.1.length (cp.fn s.2.1),.buf 90 2 s.2.2.length (cH.fn s.2.2),HT (s.1.getD i0 (0,[])).2 q]):=by
 refine cM.ga tok Tryz.func38 rfl rfl rfl λE=>?_
 refine aX [(1000001,ab)] 200 rfl av ?_;refine AK.region ?_;refine aX [] 5 rfl av ?_;refine AK.wm 9 85 2 (cP.fn []) rfl ?_;refine AK.wm 10 64 2 (cp.fn []) rfl ?_;refine AK.wm 11 90 2 (cH.fn []) rfl ?_;refine aX [(1000002,ab)] 200 rfl ?_ ?_
 .simp only[ag,show i90.bytes=16 from rfl,aF,aE];grind
 refine AK.spare 88 2 ?_;refine dY rfl av ?_;refine AK.bP 7 (I3 s.1 i0) (λx:S3=>[(1,.e (.one (.ptr 0 0))),(2,.e (.one (.ptr 1 0))),(3,.e (.one (.ptr 5 0))),(4,dI x.1)]) (λx=>OR s x.1 (ja s.1 i0 (u3 x)) 0 [] x.2.1 x.2.2.1 x.2.2.2) (λx=>s.1.length-x.1) (0,.nil af,0,[]) rfl ?_ rfl ?_ rfl ⟨by omega,.inl ⟨by omega,rfl⟩⟩ ?_
 .simp[ag.cat,ag]
 .simp[ag.cat,ag,aP,gq];rfl
 rintro⟨i,bf,m,xs⟩ ⟨hi,t⟩;simp only at hi t
 by_cases h:i<s.1.length
 .have v:s.1.getD i (0,[])∈s.1:=by grind
  have a:s.1.getD (i:Int).toNat cP.bE=s.1.getD i (0,[]):=by grind
  have q:=l _ v
  by_cases f:i=i0
  .subst f;have w:m=0:=by rcases t with⟨_,D⟩|⟨H,_⟩ <;> omega
   rw[<-a] at b q;refine aX [(20,ab),(1000005,ab)] 100 rfl ?_ ?_
   .simp only[ag,bx,ba,aF,aE];omega
   refine AK.N5 (ι:=Own (s.1.getD (i:Int).toNat cP.bE).2) ei 15 18 8 (λk=>bo k 14)
    (λk=>[.e (.one (.ptr 5 0)),.e (.one (.bp 2 (.sl i 2 0 i))),.e (.one (.ptr 0 0)),cP.sl s.1,dI i,Aw [.int .i64 (s.1.getD (i:Int).toNat cP.bE).1,sP (s.1.getD (i:Int).toNat cP.bE)],Aw [.int .i64 (s.1.getD (i:Int).toNat cP.bE).1,sP (s.1.getD (i:Int).toNat cP.bE)],dI (s.1.getD (i:Int).toNat cP.bE).1,
     .e (.one (.c (.sl ab 2 0 (λj=>[].getD j [])))),.e (.one (.ptr 0 0)),cP.sl s.1,dI i,Aw [.int .i64 (s.1.getD (i:Int).toNat cP.bE).1,sP (s.1.getD (i:Int).toNat cP.bE)],Aw [sP (s.1.getD (i:Int).toNat cP.bE)],.e (.one (.c (sP (s.1.getD (i:Int).toNat cP.bE))))].getD k .any)
    (λq k=>[.e (.one (.c (ET _ q))),.e (.agg [.c (.int .i64 (s.1.getD (i:Int).toNat cP.bE).1),.c (ET _ q)]),.e (.one (.c (.sl ab 2 1 (λj=>[[.int .i64 (s.1.getD (i:Int).toNat cP.bE).1,ET _ q]].getD j []))))].getD (k-15) .any)
    (λq=>OR s i (ja s.1 i (lD bf m)) 0 [] bf m xs++[HT _ q])
    rfl rfl rfl rfl rfl rfl rfl (λk h=>by have:=db h;omega) rfl
    ⟨OA.bT tok bD.nil rfl,OA.bT tok bD.nil rfl,OA.bT tok bD.nil rfl,OA.bT tok bD.nil rfl,OA.bT tok bD.nil rfl,OA.eval (ds:=[]) tok bD.nil rfl ?_,OA.bT tok bD.nil rfl,OA.bT tok bD.nil rfl,OA.bT tok bD.nil rfl,OA.bT tok bD.nil rfl,OA.bT tok bD.nil rfl,OA.bT tok bD.nil rfl,OA.eval (ds:=[]) tok bD.nil rfl ?_,OA.bT tok bD.nil rfl,OA.bT tok bD.nil rfl,av,av,av,av,av,av,av⟩
    (λq=>⟨OA.bT tok bD.nil rfl,OA.bT tok bD.nil rfl,OA.bT tok bD.nil rfl,OA.bT tok bD.nil rfl,OA.bT tok bD.nil rfl,OA.eval (ds:=[]) tok bD.nil rfl ?_,OA.bT tok bD.nil rfl,OA.bT tok bD.nil rfl,OA.bT tok bD.nil rfl,OA.bT tok bD.nil rfl,OA.bT tok bD.nil rfl,OA.bT tok bD.nil rfl,OA.eval (ds:=[]) tok bD.nil rfl ?_,OA.bT tok bD.nil rfl,OA.bT tok bD.nil rfl,av,OA.bT tok bD.nil rfl,OA.bT tok bD.nil rfl,av⟩)
    (rZ.Rj rfl (BS.fresh (Qp rfl) rfl rfl rfl b (by show _*24<=_;omega) (Gs _ _))) ?_
   .simp only[ag,aE];omega
   .simp only[ag,aE];omega
   .simp only[ag,aE];omega
   .simp only[ag,aE];omega
   rw[a];rw[a] at b q;generalize n:s.1.getD i (0,[])=p at *;intro r;refine aX [(1000004,ab)] 100 rfl ?_ ?_
   .simp only[ag,show i85.bytes=32 from rfl,aF,aE];grind
   refine AK.swap 6 7 (by decide) rfl rfl (λ_ _ h=>h.1) (λ_ _ h=>h.1) ?_
   refine bk rfl ?_ (AK.aQ (i+1,r.1.1,p.2.length,r.1.2) rfl ?_ ?_ ?_ ?_)
   .simp only[ag,bx,aE];omega
   .simp[ag.cat,ag,aP.same]
   .have e:=wY (ps:=s.1) (i0:=i) (u:=lD r.1.1 p.2.length) (u':=lD bf m);rw[n] at e;simp only[ag.cat,ag,aE,aF]
    and_intros <;> first|exactλ_ _=>rfl|exact e|rfl
   .refine⟨by grind,.inr ⟨by grind,?_⟩⟩
    grind
   grind
  .refine aX [(20,ab),(2000038,ab)] 200 rfl ?_ (AK.aQ (i+1,bf,m,xs) rfl ?_ ?_ ?_ ?_)
   .simp only[ag,a,bx,show i85.bytes=32 from rfl,show i88.bytes=24 from rfl,ba,gi,aF,aE];and_intros <;> omega
   .simp[ag.cat,ag]
   .have e:=yT (ps:=s.1) (u:=lD bf m) f;simp only[ag.cat,ag,a,gq,bt,aE,aF]
    and_intros <;> first|exactλ_ _=>rfl|exact e|rfl
   .refine⟨by grind,?_⟩
    grind
   grind
 obtain rfl:i=s.1.length:=by omega
 obtain⟨_,w,g⟩:i0<s.1.length/\m=(s.1.getD i0 (0,[])).2.length/\ee 2 (s.1.getD i0 (0,[])).2.length (dK.fn (s.1.getD i0 (0,[])).2) xs:=by
  grind
 subst w;clear t;generalize s.1.getD i0 (0,[])=pp at *;refine aX [(20,ae)] 200 rfl (by simp[ag]) (AK.leaveD rfl rfl ?_)
 refine dY rfl av ?_;refine AK.bP 7 (λi=>i<=s.2.1.length) (λi:Nat=>[(1,.e (.one (.ptr 0 0))),(2,.e (.one (.ptr 1 0))),(3,.e (.one (.ptr 5 0))),(5,dI i)]) (λi=>OR s s.1.length (ja s.1 i0 (lD bf pp.2.length)) i (s.2.1.take i) bf pp.2.length xs) (λi=>s.2.1.length-i) 0 rfl ?_ rfl ?_ rfl (by omega) ?_
 .simp[ag.cat,ag]
 .simp[ag.cat,ag,aP.same,aP]
 intro i hi
 by_cases h:i<s.2.1.length
 .have v:s.2.1.getD i (0,[])∈s.2.1:=by grind
  have a:s.2.1.getD (i:Int).toNat cp.bE=s.2.1.getD i (0,[]):=by grind
  have q:=o _ v;have e:=cp.gF s.2.1 h (0,[]);generalize s.2.1.getD i (0,[])=x at *;refine aX [(47,ab),(1000010,ab)] 200 rfl ?_ ?_
  .simp only[ag,a,ba,gi,aF,aE];and_intros <;> omega
  rw[a];refine AK.gm 7 1 92 2 (cL.fn []) rfl rfl ?_;refine dY rfl av ?_;refine AK.bP 9 (λj=>j<=x.2.length) (λj:Nat=>[(1,.e (.one (.ptr 0 0))),(2,.e (.one (.ptr 1 0))),(3,.e (.one (.ptr 5 0))),(5,dI i),(6,.e (.one (.ptr 7 0))),(7,dI j)]) (λj=>OR s s.1.length (ja s.1 i0 (lD bf pp.2.length)) i (s.2.1.take i) bf pp.2.length xs++[.cells 64 [.c (.int .i64 x.1),.vec 8 2 j (cL.fn (x.2.take j))],.vec 92 2 j (cL.fn (x.2.take j))]) (λj=>x.2.length-j) 0 rfl ?_ rfl ?_ rfl (by omega) ?_
  .simp[ag.cat,ag]
  .simp[ag.cat,ag,aP.same,aP]
  intro j y
  by_cases f:j<x.2.length
  .have d:x.2.getD (j:Int).toNat cL.bE=x.2.getD j ([],[]):=by grind
   have F:=q.2 (x.2.getD j ([],[])) (by grind)
   have z:=cL.gF x.2 f ([],[]);refine aX [(66,ab),(2000085,ab)] 200 rfl ?_ (AK.aQ (j+1) rfl ?_ ?_ ?_ ?_)
   .simp only[ag,a,d,bx,show i92.bytes=40 from rfl,show i3.bytes=8 from rfl,ba,gi,aF,aE];and_intros <;> omega
   .simp[ag.cat,ag]
   .simp only[ag.cat,ag,a,d,gq,bt,aE,aF]
    and_intros <;> first|exactλ_ _=>rfl|exact z|rfl
   .grind
   .omega
  obtain rfl:j=x.2.length:=by omega
  rw[b7];refine aX [(66,ae)] 200 rfl ?_ (AK.leaveD rfl rfl ?_)
  .simp only[ag,a,bM];and_intros <;> omega
  refine dY rfl ?_ (AK.aQ (i+1) rfl ?_ ?_ ?_ ?_)
  .simp only[ag,a,bx,show i64.bytes=32 from rfl,aF,aE];and_intros <;> omega
  .simp[ag.cat,ag]
  .simp only[ag.cat,ag,aE,aF]
   and_intros <;> first|exactλ_ _=>rfl|exact e|rfl
  .grind
  .omega
 obtain rfl:i=s.2.1.length:=by omega
 rw[b7];refine aX [(47,ae)] 200 rfl (by simp[ag]) (AK.leaveD rfl rfl ?_)
 refine dY rfl av ?_;refine AK.dE ⟨(bf,xs),g⟩ [2,3,4,6] rfl rfl rfl rfl rfl rfl rfl rfl ?_ rfl rfl rfl rfl (λj y=>absurd y (by simp))
 .simp[ag.cat,ag,aP.same]
def EM(s:aZ) (n:Int)(d:s.2.2.length<=4000000)(h:n<0∨n>s.2.2.length):Ev X 39 [eH s,dI n] [] (eH s) []:=by
 refine Ev.iv tok Tryz.func39 rfl rfl rfl λc=>?_
 have a:bD X [(15,od)]:=.cons oN .nil;refine aC a [(15,ab)] 200 rfl (by simp[ag];omega) ?_
 refine AK.dE () [] rfl rfl rfl rfl rfl rfl rfl rfl ?_ rfl rfl rfl rfl (λj b=>absurd b (by simp))
 simp[ag.cat,ag,aP.same]
abbrev oA(n:Nat)(s:aZ)(q:List cy):List cy:=q.filter λx=>!gU n s.2.2 x
abbrev yL(n:Nat)(s:aZ)(j:Nat)(x:cy):Bool:=((s.2.2.drop n).take j).any λh=>h.2==x.1
abbrev bkB(s:aZ)(n:Nat)(ks:List cy):List aV:=[.cells 27 [.c (sPs s.1),.c (sSs s.2.1),.c (Dx (s.2.2.take n))],.cells 27 [dr,dr,dr],.vec 64 2 ks.length (cp.fn ks)]
def uc{α:Type}(p:α->Bool){l:List α}{i:Nat}(h:i<l.length)(d:α):(l.take (i+1)).filter p=(l.take i).filter p++(if p (l.getD i d) then [l.getD i d] else []):=by
 grind [bq]
def Lt{α:Type}(p:α->Bool){l:List α}{i:Nat}(h:i<l.length)(d:α):(l.take (i+1)).any p=((l.take i).any p||p (l.getD i d)):=by
 grind [bq]
def EN(s:aZ)(n:Nat)(z:n<=s.2.2.length)(w:s.2.1.length<=4000000)(g:∀ x∈s.2.1,-4000000<=x.1/\x.1<=4000000)(y:s.2.2.length<=4000000):Ev X 39 [eH s,dI n] [] (eH (s.1,oA n s s.2.1,s.2.2.take n)) []:=by
 refine Ev.iv tok Tryz.func39 rfl rfl rfl λv=>?_
 have a:bD X [(15,od)]:=.cons oN .nil;refine aC a [(15,ae),(1000006,ab)] 100 rfl ?_ ?_
 .simp[ag,iQ];omega
 refine AK.iu 6 64 2 rfl rfl ?_;refine aC a [] 100 rfl av ?_;refine AK.bP 3 (λi=>i<=s.2.1.length) (λi:Nat=>[(2,.e (.one (.ptr 0 0))),(4,.e (.one (.ptr 1 0))),(5,cH.sl (s.2.2.drop n)),(6,.e (.one (.vec 2 2 (oA n s (s.2.1.take i)).length (cp.fn (oA n s (s.2.1.take i)))))),(7,dI i)]) (λi=>bkB s n (oA n s (s.2.1.take i))) (λi=>s.2.1.length-i) 0 rfl ?_ rfl ?_ rfl (by omega) ?_
 .have e:=cH.Gm s.2.2 n (s.2.2.length-n);simp[ag.cat,ag,aP.same,aP.nil,cv];exact e
 .simp[ag.cat,ag,aP.same,aP.nil,cv];exact⟨by omega,λi hi=>by
   have k:i<n:=hi;simp[jL,cv,hY.fn,sQ,ai,gQ,k]⟩
 intro i hi
 by_cases h:i<s.2.1.length
 .have t:s.2.1.getD i (0,[])∈s.2.1:=by grind
  have c:s.2.1.getD (i:Int).toNat cp.bE=s.2.1.getD i (0,[]):=by grind
  have q:=g _ t;have e:=cp.gF s.2.1 h (0,[]);have m:oA n s (s.2.1.take (i+1))=oA n s (s.2.1.take i)++(if !gU n s.2.2 (s.2.1.getD i (0,[])) then [s.2.1.getD i (0,[])] else []):=uc (λx=>!gU n s.2.2 x) h (0,[])
  have r:(oA n s (s.2.1.take i)).length<=i:=eL (j6 _ _) (by grind)
  generalize oA n s (s.2.1.take i)=ks at *;generalize s.2.1.getD i (0,[])=x at *;refine aC a [(31,ab)] 200 rfl ?_ ?_
  .simp only[ag,c,ba,gi,aF,aE];grind
  refine AK.bP 3 (λj=>j<=(s.2.2.drop n).length) (λj:Nat=>[(2,.e (.one (.ptr 0 0))),(4,.e (.one (.ptr 1 0))),(5,cH.sl (s.2.2.drop n)),(6,.e (.one (.vec 2 2 ks.length (cp.fn ks)))),(7,dI i),(8,dB (yL n s j x)),(9,dI j)]) (λj=>bkB s n ks) (λj=>(s.2.2.drop n).length-j) 0 rfl ?_ rfl ?_ rfl (by omega) ?_
  .simp[ag.cat,ag,aP.same]
  .simp[ag.cat,ag,aP.same]
  intro j o;have u:=me (i:=n) (l:=s.2.2)
  by_cases p:j<(s.2.2.drop n).length
  .have b:(s.2.2.drop n).getD (j:Int).toNat cH.bE=(s.2.2.drop n).getD j (0,0):=by grind
   have d:yL n s (j+1) x=(yL n s j x||((s.2.2.drop n).getD j (0,0)).2==x.1):=Lt (λh:Int×Int=>h.2==x.1) p (0,0)
   cases f:yL n s j x with
   |true =>
    refine aC a [(37,ab)] 200 rfl ?_ (AK.aQ (j+1) rfl ?_ ?_ ?_ ?_)
    .simp only[ag,c,b,ba,gi,aF,aE];and_intros <;> omega
    .rw[f] at d;simp[ag.cat,ag,aP.same,d]
    .simp[ag.cat,ag,aP.same]
    .grind
    .omega
   |false =>
    refine aC a [(37,ab)] 200 rfl ?_ (AK.aQ (j+1) rfl ?_ ?_ ?_ ?_)
    .simp only[ag,c,b,ba,gi,aF,aE];and_intros <;> omega
    .rw[f] at d;simp only[ag.cat,ag,aP.same,d,c,b,aF,aE,Bool.false_or];rfl
    .simp[ag.cat,ag,aP.same]
    .grind
    .omega
  obtain rfl:j=(s.2.2.drop n).length:=by omega
  have d:yL n s (s.2.2.drop n).length x=gU n s.2.2 x:=by unfold yL gU;grind
  rw[d];cases f:gU n s.2.2 x with
  |true =>
   rw[f] at m;refine aC a [(37,ae)] 200 rfl ?_ (AK.leaveD rfl rfl ?_)
   .simp[ag]
   refine aC a [] 200 rfl ?_ (AK.aQ (i+1) rfl ?_ ?_ ?_ ?_)
   .simp only[ag,bx,aF,aE];omega
   .have:oA n s (s.2.1.take (i+1))=ks:=by grind
    rw[this];simp only[ag.cat,ag,aP.same,aF,aE];rfl
   .rw[show oA n s (s.2.1.take (i+1))=ks by grind]
    simp[ag.cat,ag,aP.same]
   .grind
   .omega
  |false =>
   rw[f] at m;refine aC a [(37,ae)] 200 rfl ?_ (AK.leaveD rfl rfl ?_)
   .simp[ag]
   refine aC a [] 200 rfl ?_ (AK.aQ (i+1) rfl ?_ ?_ ?_ ?_)
   .simp only[ag,bx,show i64.bytes=32 from rfl,aF,aE];and_intros <;> omega
   .rw[show oA n s (s.2.1.take (i+1))=ks++[x] by grind]
    simp only[ag.cat,ag,c,aP.same,aF,aE,bR,er];exact⟨cp.cq ks x,rfl⟩
   .rw[show oA n s (s.2.1.take (i+1))=ks++[x] by grind]
    simp only[ag.cat,ag,c,aP.same,aF,aE,bR,er];exact cp.cq ks x
   .grind
   .omega
 obtain rfl:i=s.2.1.length:=by omega
 rw[b7];refine aC a [(31,ae)] 200 rfl (by simp[ag]) (AK.leaveD rfl rfl ?_)
 refine aC a [] 200 rfl av ?_;refine AK.dE () [] rfl rfl rfl rfl rfl rfl rfl rfl ?_ rfl rfl rfl rfl (λj o=>absurd o (by simp))
 simp[ag.cat,ag,aP.same]
def HM(s:aZ)(l:c8)(a:dL s)(d:l.1≠1)(f:l.1≠2)(b:l.1≠3)(c:l.1≠4):Ev X 17 [eH s,gh l] [] (eH s) []:=by
 refine Ev.iv tok Tryz.func17 rfl rfl rfl λg=>?_
 refine bk rfl av ?_;refine AK.cQ (fx s a.p a.p2 a.sn a.s2 a.h) [] rfl ?_;refine aX [(13,ae),(42,ae),(48,ae),(91,ae)] 100 rfl ?_ ?_
 .simp[ag,d,f,b,c]
 refine AK.dE () [] rfl rfl rfl rfl rfl rfl rfl rfl ?_ rfl rfl rfl rfl (λj e=>absurd e (by simp))
 simp[ag.cat,ag,aP.same]
def yM(s:aZ)(l:c8)(s':aZ)(a:dL s)(c:l.1=2)(d:Ev X 39 [eH s,dI l.2.1] [] (eH s') []):Ev X 17 [eH s,gh l] [] (eH s') []:=by
 refine Ev.iv tok Tryz.func17 rfl rfl rfl λe=>?_
 refine bk rfl av ?_;refine AK.cQ (fx s a.p a.p2 a.sn a.s2 a.h) [] rfl ?_;refine aX [(13,ae),(42,ab)] 100 rfl ?_ ?_
 .simp[ag,c]
 refine AK.mr d.Bm [] rfl rfl rfl rfl ?_ rfl rfl rfl (λ_=>rfl) rfl (λ_=>rfl) rfl ?_
 .simp[ag.cat,ag,aP.same]
 rintro -;refine bk rfl av ?_;refine AK.dE () [] rfl rfl rfl rfl rfl rfl rfl rfl ?_ rfl rfl rfl rfl (λj b=>absurd b (by simp))
 simp[ag.cat,ag,aP.same]
abbrev pr(n:Int)(q:List bw):List bw:=q.filter λx=>!(x.1==n)
abbrev Yp(s:aZ)(l:c8)(ks:List bw):List aV:=[HJ s,.cells 32 (K7 l),.cells 27 [dr,dr,dr],.vec 85 2 s.1.length (cP.fn s.1),.vec 64 2 s.2.1.length (cp.fn s.2.1),.vec 90 2 s.2.2.length (cH.fn s.2.2),
 .cells 27 [.vec 3 2 s.1.length (cP.fn s.1),.vec 4 2 s.2.1.length (cp.fn s.2.1),.vec 5 2 s.2.2.length (cH.fn s.2.2)],.vec 85 2 ks.length (cP.fn ks)]
def HN(s:aZ)(l:c8)(b:dL s)(g:l.1=1):Ev X 17 [eH s,gh l] [] (eH (s.1.filter λx=>!(x.1==l.2.1),s.2.1,s.2.2)) []:=by
 refine Ev.iv tok Tryz.func17 rfl rfl rfl λn=>?_
 refine bk rfl av ?_;refine AK.cQ (fx s b.p b.p2 b.sn b.s2 b.h) [] rfl ?_;refine aX [(13,ab),(1000005,ab)] 100 rfl ?_ ?_
 .simp[ag,g]
 refine AK.iu 6 85 2 rfl rfl ?_;refine bk rfl av ?_;have m:=b.p;refine AK.bP 8 (λi=>i<=s.1.length) (λi:Nat=>[(3,.e (.one (.ptr 1 0))),(4,.e (.one (.ptr 2 0))),(5,.e (.one (.ptr 6 0))),(6,.e (.one (.vec 7 2 (pr l.2.1 (s.1.take i)).length (cP.fn (pr l.2.1 (s.1.take i)))))),(7,dI i)]) (λi=>Yp s l (pr l.2.1 (s.1.take i))) (λi=>s.1.length-i) 0 rfl ?_ rfl ?_ rfl (by omega) ?_
 .simp[ag.cat,ag,aP.same,aP.nil]
 .simp[ag.cat,ag,aP.same,aP.nil]
 intro i hi
 by_cases h:i<s.1.length
 .have c:s.1.getD (i:Int).toNat cP.bE=s.1.getD i (0,[]):=by rw[bA];rfl
  have a:pr l.2.1 (s.1.take (i+1))=pr l.2.1 (s.1.take i)++(if !((s.1.getD i (0,[])).1==l.2.1) then [s.1.getD i (0,[])] else []):=uc (λx:bw=>!(x.1==l.2.1)) h (0,[])
  have f:(pr l.2.1 (s.1.take i)).length<=i:=eL (j6 _ _) (by simp;omega)
  generalize pr l.2.1 (s.1.take i)=ks at *;generalize s.1.getD i (0,[])=x at *;cases d:x.1==l.2.1 with
  |true =>
   rw[d] at a;refine aX [(20,ab),(31,ae)] 200 rfl ?_ (AK.aQ (i+1) rfl ?_ ?_ ?_ ?_)
   .simp only[ag,c,bx,ba,bM,gi,aF,aE]
    and_intros <;> first|omega|simp[bne,d]
   .rw[show pr l.2.1 (s.1.take (i+1))=ks by simpa using a]
    simp only[ag.cat,ag,aP.same,aF,aE];rfl
   .rw[show pr l.2.1 (s.1.take (i+1))=ks by simpa using a]
    simp[ag.cat,ag,aP.same]
   .show i+1<=_;omega
   .omega
  |false =>
   rw[d] at a;refine aX [(20,ab),(31,ab)] 200 rfl ?_ (AK.aQ (i+1) rfl ?_ ?_ ?_ ?_)
   .simp only[ag,c,bx,show i85.bytes=32 from rfl,ba,bM,gi,aF,aE]
    and_intros <;> first|omega|simp[bne,d]
   .rw[show pr l.2.1 (s.1.take (i+1))=ks++[x] by simpa using a]
    simp only[ag.cat,ag,c,aP.same,aF,aE,bR,er];exact⟨cP.cq ks x,rfl⟩
   .rw[show pr l.2.1 (s.1.take (i+1))=ks++[x] by simpa using a]
    simp only[ag.cat,ag,c,aP.same,aF,aE,bR,er];exact cP.cq ks x
   .show i+1<=_;omega
   .omega
 obtain rfl:i=s.1.length:=by omega
 rw[b7];refine aX [(20,ae)] 200 rfl (by simp[ag]) (AK.leaveD rfl rfl ?_)
 refine dY rfl av ?_;refine AK.dE () [] rfl rfl rfl rfl rfl rfl rfl rfl ?_ rfl rfl rfl rfl (λj k=>absurd k (by simp))
 simp[ag.cat,ag,aP.same]
def Lu{f:aW}{args:List D}(ps:List bw)(d:List cy)(n:Nat)(es:Nat->List C)(g:List (Int×Int))(j:g.length=n)(i:aP n es (cH.fn g))
  (a:cM (ι:=Unit) X f args [] (λ_=>.e (.agg [aB 0 ps.length ps.length,aB 1 d.length d.length,aB 2 n n])) (λ_=>[.buf 85 2 ps.length (cP.fn ps),.buf 64 2 d.length (cp.fn d),.buf 90 2 n es])) :
  Ev X f args [] (eH (ps,d,g)) []:=by
 have h:=cM.iY (σ1:=λ_:Unit=>[.buf 85 2 ps.length (cP.fn ps),.buf 64 2 d.length (cp.fn d)]) (E:=90) (k:=2) (n:=λ_=>n) (es:=λ_=>es) a (λ_=>rfl) (λ_=>?_) (λ_=>rfl) (λ_=>gD _)
 have b:=cM.iY (σ1:=λ_:Unit=>[.buf 85 2 ps.length (cP.fn ps)]) (E:=64) (k:=2) (n:=λ_=>d.length) (es:=λ_=>cp.fn d) h (λ_=>rfl) (λ_=>?_) (λ_=>rfl) (λ_=>gD _)
 have c:=cM.iY (σ1:=λ_:Unit=>[]) (E:=85) (k:=2) (n:=λ_=>ps.length) (es:=λ_=>cP.fn ps) b (λ_=>rfl) (λ_=>?_) (λ_=>rfl) (λ_=>bg _)
 refine(c.le (res':=λ_=>eH (ps,d,g)) (λ_=>rfl) (λ_=>?_)).one
 .simp only[ag.cat,ag,aE,aF];exact⟨aP.same,aP.same,j.symm,i⟩
 .simp[ag.cat,ag]
 .simp[ag.cat,ag]
 .simp[ag.cat,ag]
def EO(s:aZ)(l:c8)(a:dL s)(h:l.1=4)(f:0<=l.2.1)(g:l.2.1<s.2.2.length)(b:bx .i64 (3-EI s l)) :
  cM (ι:=Unit) X 17 [eH s,gh l] [] (λ_=>.e (.agg [aB 0 s.1.length s.1.length,aB 1 s.2.1.length s.2.1.length,aB 2 s.2.2.length s.2.2.length])) (λ_=>[.buf 85 2 s.1.length (cP.fn s.1),.buf 64 2 s.2.1.length (cp.fn s.2.1),.buf 90 2 s.2.2.length (AB s l)]):=by
 refine cM.ga tok Tryz.func17 rfl rfl rfl λd=>?_
 have c:bD X [(15,od)]:=.cons oN .nil;have i:=a.h;refine aC c [] 100 rfl av ?_;refine AK.cQ (HO s a.p a.p2 a.sn a.s2 a.h) [] rfl ?_;refine aC c [(13,ae),(42,ae),(48,ae),(91,ab),(99,ab)] 100 rfl ?_ ?_
 .have b:bx .i64 (3-(s.2.2.getD (0+l.2.1.toNat) cH.bE).1):=b;simp only[ag,bx,h,ba,aF,aE] at b ⊢
  and_intros <;> first|omega|rfl
 refine AK.dE () [3,4,5] rfl rfl rfl rfl rfl rfl rfl rfl ?_ rfl rfl rfl rfl fO;simp[ag.cat,ag,aP.same]
def HP(s:aZ)(l:c8)(c:dL s)(h:l.1=4)(d:0<=l.2.1)(b:l.2.1<s.2.2.length)(a:bx .i64 (3-EI s l)) :
  Ev X 17 [eH s,gh l] [] (eH (s.1,s.2.1,s.2.2.set (0+l.2.1.toNat) (3-EI s l,(s.2.2.getD (0+l.2.1.toNat) cH.bE).2))) [] :=
 Lu s.1 s.2.1 _ _ _ (by simp) (cH.qM s.2.2 (0+l.2.1.toNat) (3-EI s l,(s.2.2.getD (0+l.2.1.toNat) cH.bE).2) s.2.2.length (bg _)) (EO s l c h d b a)
def EP(s:aZ)(l:c8)(a:dL s)(h:l.1=4)(f:¬(0<=l.2.1/\l.2.1<s.2.2.length)):Ev X 17 [eH s,gh l] [] (eH s) []:=by
 refine Ev.iv tok Tryz.func17 rfl rfl rfl λd=>?_
 have b:bD X [(15,od)]:=.cons oN .nil;have e:=a.h;refine aC b [] 100 rfl av ?_;refine AK.cQ (fx s a.p a.p2 a.sn a.s2 a.h) [] rfl ?_;refine aC b [(13,ae),(42,ae),(48,ae),(91,ab),(99,ae)] 100 rfl ?_ ?_
 .simp only[ag,bx,h,bM,aF,aE]
  and_intros <;> first|omega|rfl
 refine AK.dE () [] rfl rfl rfl rfl rfl rfl rfl rfl ?_ rfl rfl rfl rfl (λj c=>absurd c (by simp))
 simp[ag.cat,ag,aP.same]
abbrev Sl(s:aZ)(l:c8)(i0 b cap n0:Nat)(a:List ak):List aV:=[HJ s,.cells 32 (K7 l),.cells 27 [dr,dr,dr],.buf 85 2 s.1.length (ja s.1 i0 (.slice (aa ⟨b,0,af⟩) n0 cap)),.buf 64 2 s.2.1.length (cp.fn s.2.1),.buf 90 2 s.2.2.length (cH.fn s.2.2),.dD (hU 88 2 (.row b cap) n0 a),.cells 27 [aB 3 s.1.length s.1.length,aB 4 s.2.1.length s.2.1.length,aB 5 s.2.2.length s.2.2.length]]
def EV(s:aZ)(l:c8)(g:dL s)(h:l.1=3)(i0 m:Nat)(d:Ts s l i0 m) :
  cM (ι:={ q:qW×List ak // ee 2 (s.1.getD i0 (0,[])).2.length (dK.fn (dn (s.1.getD i0 (0,[])).2 m l.2.2.2)) q.2 }) X 17 [eH s,gh l] []
   (λ_=>.e (.agg [aB 0 s.1.length s.1.length,aB 1 s.2.1.length s.2.1.length,aB 2 s.2.2.length s.2.2.length]))
   (λq=>[.buf 85 2 s.1.length (ja s.1 i0 (lD q.1.1 (s.1.getD i0 (0,[])).2.length)),.buf 64 2 s.2.1.length (cp.fn s.2.1),.buf 90 2 s.2.2.length (cH.fn s.2.2),.dD (hU 88 2 q.1.1 (s.1.getD i0 (0,[])).2.length q.1.2)]):=by
 have t:=d.ml;have F:=g.p2 _ (nw d.i);have H:=g.p;refine cM.ga tok Tryz.func17 rfl rfl rfl λI=>?_
 have a:bD X [(15,od)]:=.cons oN .nil;refine aC a [] 100 rfl av ?_;refine AK.cP (EU s i0 d.i (by omega) g.p g.p2 g.sn g.s2 g.h) [] rfl (λ_=>rfl) ?_
 rintro⟨⟨bf,z⟩,w⟩;refine AK.Jp (hU.len (l:=6) rfl) λu=>?_
 obtain⟨b,cap,rfl⟩:=u.2.2.1 (by omega)
 refine aC a [(13,ae),(42,ae),(48,ab)] 100 rfl ?_ ?_
 .simp[ag,h]
 refine AK.bP 8 (λx:Nat×List ak=>x.1<=s.1.length/\(x.1<=i0->x.2=z)/\(i0<x.1->ee 2 (s.1.getD i0 (0,[])).2.length (dK.fn (dn (s.1.getD i0 (0,[])).2 m l.2.2.2)) x.2)) (λx=>[(3,.e (.one (.ptr 1 0))),(4,.e (.one (.ptr 2 0))),(5,.e (.one (.ptr 7 0))),(8,dI x.1)]) (λx=>Sl s l i0 b cap (s.1.getD i0 (0,[])).2.length x.2) (λx=>s.1.length-x.1) (0,z) rfl ?_ rfl ?_ rfl ⟨by omega,λ_=>rfl,λh=>by omega⟩ ?_
 .simp[ag.cat,ag,aP.same]
 .simp only[ag.cat,ag,aP.same,aE,aF]
  and_intros <;> first|exactλ_ _=>rfl|rfl
 rintro⟨i,f⟩ ⟨hi,o,r⟩;simp only at hi o r;have n:0+(i:Int).toNat=i:=by omega
 by_cases h:i<s.1.length
 .by_cases y:i=i0
  .subst y;obtain rfl:=o (bg _);have j:=d.no;have E:=d.at';generalize D:(s.1.getD i (0,[])).2=xs at *;refine aC a [(54,ab),(1000017,ab)] 100 rfl ?_ ?_
   .simp only[ag,ba,aF,aE];omega
   refine AK.N5 (ι:=Unit) ei 17 20 20 (λk=>bo k 16) (λk=>[.e (.one (.ptr 7 0)),.e (.one (aB 3 s.1.length s.1.length)),dI i,.e (.one (.bp 3 (.el s.1.length 2 (0+(i:Int).toNat) 0))),.e (.one (.bp 3 (.el s.1.length 2 (0+(i:Int).toNat) 0))),dI (s.1.getD (0+(i:Int).toNat) (0,[])).1,.e (.one (.ptr 1 1)),dI l.2.1,dB ((s.1.getD (0+(i:Int).toNat) (0,[])).1==l.2.1),dB ab,.e (.one (.ptr 1 2)),dI l.2.2.1,.e (.one (.ptr 7 0)),.e (.one (aB 3 s.1.length s.1.length)),dI i,.e (.one (.bp 3 (.el s.1.length 2 (0+(i:Int).toNat) 0))),.e (.one (.bp 3 (.el s.1.length 2 (0+(i:Int).toNat) 1)))].getD k .any)
    (λ_ k=>[.e (.one (.c (.val (.slice (aa ⟨b,0,af⟩) xs.length cap)))),dI xs.length,dI (xs.length-1)].getD (k-17) .any)
    (λ_=>Sl s l i b cap xs.length f) rfl rfl rfl rfl rfl rfl rfl (λk h=>by have:=db h;omega) rfl
    ⟨OA.bT tok a rfl,OA.bT tok a rfl,OA.bT tok a rfl,OA.eval (ds:=[]) tok a rfl (by simp only[ag,aE];omega),OA.bT tok a rfl,OA.eval (ds:=[]) tok a rfl (by simp only[ag,aF,aE];omega),OA.bT tok a rfl,OA.bT tok a rfl,OA.bT tok a rfl,OA.eval (ds:=[(66,ab)]) tok a rfl (by simp only[ag.cat,ag,n,j,eB,aF]),OA.bT tok a rfl,OA.bT tok a rfl,OA.bT tok a rfl,OA.bT tok a rfl,OA.bT tok a rfl,OA.eval (ds:=[]) tok a rfl (by simp only[ag,aE];omega),OA.bT tok a rfl,av,av,av,av,av,av⟩
    (λ_=>⟨OA.bT tok a rfl,OA.bT tok a rfl,OA.bT tok a rfl,OA.eval (ds:=[]) tok a rfl (by simp only[ag,aE];omega),OA.bT tok a rfl,OA.eval (ds:=[]) tok a rfl (by simp only[ag,aF,aE];omega),OA.bT tok a rfl,OA.bT tok a rfl,OA.bT tok a rfl,OA.eval (ds:=[(66,ab)]) tok a rfl (by simp only[ag.cat,ag,n,j,eB,aF]),OA.bT tok a rfl,OA.bT tok a rfl,OA.bT tok a rfl,OA.bT tok a rfl,OA.bT tok a rfl,OA.eval (ds:=[]) tok a rfl (by simp only[ag,aE];omega),OA.bT tok a rfl,av,OA.eval (ds:=[]) tok a rfl (by simp only[ag,aE];omega),OA.eval (ds:=[]) tok a rfl (by simp only[ag,bx,aE];omega),av⟩)
    (rZ.tg (OA.md (vB rfl) (bH.BK tok (e:=.one (.c (.val (.slice (aa ⟨b,0,af⟩) xs.length cap)))) rfl rfl rfl rfl rfl ?_ ?_))) λ_=>?_
   .show aa (E1.one (A.c (Dy s.1 i (.slice (aa ⟨b,0,af⟩) xs.length cap) (0+(i:Int).toNat))))=_;rw[n,Dy,bd rfl]
   .grind
   refine aC a [(78,ab),(1000018,ab)] 100 rfl ?_ ?_
   .simp only[ag,ba,aE];omega
   refine AK.N5 (ι:=Unit) ei 5 10 8 (λk=>bo k 4||(bo 6 k&&bo k 9)) (λk=>[.e (.one (.ptr 7 0)),.e (.one (aB 3 s.1.length s.1.length)),dI i,.e (.one (.bp 3 (.el s.1.length 2 (0+(i:Int).toNat) 0))),.e (.one (.bp 3 (.el s.1.length 2 (0+(i:Int).toNat) 1))),.any,.e (.one (.ptr 1 2)),dI l.2.2.1,.e (.one (.ptr 1 3)),.e (.one (.c (.str l.2.2.2)))].getD k .any)
    (λ_ k=>[.e (.one (.c (.val (.slice (aa ⟨b,0,af⟩) xs.length cap))))].getD (k-5) .any)
    (λ_=>Sl s l i b cap xs.length f) rfl rfl rfl rfl rfl rfl rfl (λk h=>by simp at h;omega) rfl
    ⟨OA.bT tok a rfl,OA.bT tok a rfl,OA.bT tok a rfl,OA.eval (ds:=[]) tok a rfl (by simp only[ag,aE];omega),OA.bT tok a rfl,av,OA.bT tok a rfl,OA.bT tok a rfl,OA.bT tok a rfl,OA.bT tok a rfl,av,av,av,av⟩
    (λ_=>⟨OA.bT tok a rfl,OA.bT tok a rfl,OA.bT tok a rfl,OA.eval (ds:=[]) tok a rfl (by simp only[ag,aE];omega),OA.bT tok a rfl,av,OA.bT tok a rfl,OA.bT tok a rfl,OA.bT tok a rfl,OA.bT tok a rfl,av⟩)
    (rZ.tg (OA.md (vB rfl) (bH.BK tok (e:=.one (.c (.val (.slice (aa ⟨b,0,af⟩) xs.length cap)))) rfl rfl rfl rfl rfl ?_ ?_))) λ_=>?_
   .show aa (E1.one (A.c (Dy s.1 i (.slice (aa ⟨b,0,af⟩) xs.length cap) (0+(i:Int).toNat))))=_;rw[n,Dy,bd rfl]
   .grind
   refine aC a [] 100 rfl ?_ ?_
   .simp only[ag,aE];omega
   have G:f.length=xs.length*2:=w.len;have C:0+l.2.2.1.toNat*2+1=m*2+1:=by omega
   refine AK.DS tok 6 rfl rfl rfl rfl rfl rfl rfl ?_ rfl rfl λvs IZ=>?_
   .show 0+l.2.2.1.toNat*2+1+1<=f.length;omega
   have B:=su w t IZ;refine aC a [] 100 rfl ?_ (AK.aQ (i+1,f.take (m*2+1)++vs++f.drop (m*2+1+vs.length)) rfl ?_ ?_ ?_ ?_)
   .simp only[ag,bx,aE];omega
   .simp[ag.cat,ag,aP.same]
   .simp only[ag.cat,ag,aP.same,aE,aF];show hU 88 2 _ _ (List.take (0+l.2.2.1.toNat*2+1) f++vs++List.drop (0+l.2.2.1.toNat*2+1+vs.length) f)=_;rw[C]
   .grind
   grind
  .have v:=d.ne i h y;refine aC a [(54,ab),(66,ae),(78,ae)] 100 rfl ?_ (AK.aQ (i+1,f) rfl ?_ ?_ ?_ ?_)
   .simp only[ag,bx,n,dt,ba,aF,aE]
    and_intros <;> first|exact v|omega
   .simp[ag.cat,ag,aP.same]
   .simp[ag.cat,ag,aP.same]
   .grind
   grind
 obtain rfl:i=s.1.length:=by omega
 refine aC a [(54,ae)] 100 rfl (by simp[ag]) (AK.leaveD rfl rfl ?_)
 refine aC a [] 100 rfl av ?_;refine AK.dE ⟨(.row b cap,f),r d.i⟩ [3,4,5,6] rfl rfl rfl rfl rfl rfl rfl rfl ?_ rfl rfl rfl rfl fO;simp[ag.cat,ag,aP.same]
def HX{f:aW}{args:List D}(s:aZ)(l:c8)(i0 m:Nat)(hi:i0<s.1.length)
  (a:cM (ι:={ q:qW×List ak // ee 2 (s.1.getD i0 (0,[])).2.length (dK.fn (dn (s.1.getD i0 (0,[])).2 m l.2.2.2)) q.2 }) X f args []
   (λ_=>.e (.agg [aB 0 s.1.length s.1.length,aB 1 s.2.1.length s.2.1.length,aB 2 s.2.2.length s.2.2.length]))
   (λq=>[.buf 85 2 s.1.length (ja s.1 i0 (lD q.1.1 (s.1.getD i0 (0,[])).2.length)),.buf 64 2 s.2.1.length (cp.fn s.2.1),.buf 90 2 s.2.2.length (cH.fn s.2.2),.dD (hU 88 2 q.1.1 (s.1.getD i0 (0,[])).2.length q.1.2)])) :
  Ev X f args [] (eH (gL s l i0 m)) []:=by
 generalize w:s.1.getD i0 (0,[])=p at *;have i:∀ j,j≠i0->cP.fn (gL s l i0 m).1 j=cP.fn s.1 j:=λj g=>by
  simp[hY.fn,sQ,ai,uU,mi g]
 have o:cP.fn (gL s l i0 m).1 i0=[.int .i64 p.1,.sl ae 2 p.2.length (dK.fn (dn p.2 m l.2.2.2))]:=by
  have:(gL s l i0 m).1.getD i0 cP.bE=(p.1,dn p.2 m l.2.2.2):=by
   grind
  show cP.enc ((gL s l i0 m).1.getD i0 cP.bE)=_;rw[this];show [C.int .i64 p.1,C.sl ae 2 (dn p.2 m l.2.2.2).length (dK.fn (dn p.2 m l.2.2.2))]=_;rw[ue]
 have u:=cM.zW (σ1:=λq:{ q:qW×List ak // ee 2 p.2.length (dK.fn (dn p.2 m l.2.2.2)) q.2 }=>[.buf 85 2 s.1.length (ja s.1 i0 (lD q.1.1 p.2.length)),.buf 64 2 s.2.1.length (cp.fn s.2.1),.buf 90 2 s.2.2.length (cH.fn s.2.2)]) (σ2:=λ_=>[.buf 85 2 s.1.length (cP.fn (gL s l i0 m).1),.buf 64 2 s.2.1.length (cp.fn s.2.1),.buf 90 2 s.2.2.length (cH.fn s.2.2)]) (E:=88) (k:=2) (n:=p.2.length) (bf:=λq=>q.1.1) (xs:=λq=>q.1.2) a (λq=>q.2) 0 (λ_=>rfl) (λ_=>rfl) (λ_=>rfl) (λ_=>rfl) (λ_=>gD _)
  (λq j g=>by
   by_cases h:j=i0
   .subst h;rw[o];rfl
   .rw[i j h];rfl)
  (λq j g r v d=>by
   by_cases h:j=i0
   .subst h;rw[o] at d;have:ja s.1 j (lD q.1.1 p.2.length) j=[.int .i64 p.1,.val (lD q.1.1 p.2.length)]:=by simp only[ja,Dy,cu,w]
    rw[this];rcases r with _|_|r
    .simp at d;subst d;exact⟨_,rfl,.inl rfl⟩
    .simp at d;subst d;exact⟨_,rfl,.inr ⟨rfl,rfl⟩⟩
    grind
   .rw[i j h] at d;have:ja s.1 i0 (lD q.1.1 p.2.length) j=cP.fn s.1 j:=by simp only[ja,Dy,aY h];rfl
    rw[this];exact⟨v,d,.inl rfl⟩)
 have t:=cM.iY (σ1:=λ_=>[.buf 85 2 s.1.length (cP.fn (gL s l i0 m).1),.buf 64 2 s.2.1.length (cp.fn s.2.1)]) (E:=90) (k:=2) (n:=λ_=>s.2.2.length) (es:=λ_=>cH.fn s.2.2) u (λ_=>rfl) (λ_=>?_) (λ_=>rfl) (λ_=>gD _)
 have b:=cM.iY (σ1:=λ_=>[.buf 85 2 s.1.length (cP.fn (gL s l i0 m).1)]) (E:=64) (k:=2) (n:=λ_=>s.2.1.length) (es:=λ_=>cp.fn s.2.1) t (λ_=>rfl) (λ_=>?_) (λ_=>rfl) (λ_=>gD _)
 have c:=cM.iY (σ1:=λ_=>[]) (E:=85) (k:=2) (n:=λ_=>s.1.length) (es:=λ_=>cP.fn (gL s l i0 m).1) b (λ_=>rfl) (λ_=>?_) (λ_=>rfl) (λ_=>bg _)
 refine(c.le (res':=λ_=>eH (gL s l i0 m)) (λ_=>rfl) (λ_=>?_)).one
 .simp only[ag.cat,ag,aE,aF,nL];exact⟨aP.same,aP.same,aP.same⟩
 .simp[ag.cat,ag]
 .simp[ag.cat,ag]
 .simp[ag.cat,ag]
def HY(s:aZ)(l:c8)(b:dL s)(h:l.1=3)(i0 m:Nat)(a:Ts s l i0 m):Ev X 17 [eH s,gh l] [] (eH (gL s l i0 m)) [] :=
 HX s l i0 m a.i (EV s l b h i0 m a)
def uf(s:aZ)(l:c8):Prop:=∀ j,j<s.1.length->¬((s.1.getD j (0,[])).1=l.2.1/\0<=l.2.2.1/\l.2.2.1<(s.1.getD j (0,[])).2.length)
def HW(s:aZ)(l:c8)(f:dL s)(m:uf s l):Ev X 121 [.e (.one (.ptr 5 0)),Aw (tu l)] (I9 s l) (.eK []) (I9 s l):=by
 have n:=f.p;refine cM.uA (cM.mV (ι:=Unit) (res:=λ_=>.eK []) (σ':=λ_=>I9 s l) Tryz.func121 rfl rfl rfl (AK.of_code ?_))
 refine bk rfl av ?_;refine AK.bP 6 (λi=>i<=s.1.length) (λi:Nat=>[(0,.e (.one (.ptr 5 0))),(1,Aw (tu l)),(8,.e (.one (aB 3 s.1.length s.1.length))),(9,dI s.1.length),(10,dI i)]) (λ_=>I9 s l) (λi=>s.1.length-i) 0 rfl ?_ rfl ?_ rfl (by omega) ?_
 .simp[ag.cat,ag,aP.same]
 .simp[ag.cat,ag,aP.same]
 intro i hi
 by_cases h:i<s.1.length
 .have c:=m i h;have j:=f.p2 _ (nw h);have g:0+(i:Int).toNat=i:=by omega
  have b:s.1.getD (0+(i:Int).toNat) cP.bE=s.1.getD i (0,[]):=by rw[g];rfl
  generalize s.1.getD i (0,[])=p at *
  by_cases a:p.1=l.2.1
  .by_cases k:0<=l.2.2.1
   .have d:¬l.2.2.1<p.2.length:=λd=>c ⟨a,k,d⟩
    refine aX [(11,ab),(19,ab),(24,ab),(31,ae)] 100 rfl ?_ (AK.aQ (i+1) rfl ?_ ?_ ?_ ?_)
    .simp only[ag,bx,b,a,eB,ba,bM,aF,aE];and_intros <;> omega
    .simp[ag.cat,ag,aP.same]
    .simp[ag.cat,ag,aP.same]
    .show i+1<=_;omega
    .omega
   .refine aX [(11,ab),(19,ab),(24,ae),(31,ae)] 100 rfl ?_ (AK.aQ (i+1) rfl ?_ ?_ ?_ ?_)
    .simp only[ag,bx,b,a,eB,ba,bM,aF,aE];and_intros <;> omega
    .simp[ag.cat,ag,aP.same]
    .simp[ag.cat,ag,aP.same]
    .show i+1<=_;omega
    .omega
  .refine aX [(11,ab),(19,ae),(24,ae),(31,ae)] 100 rfl ?_ (AK.aQ (i+1) rfl ?_ ?_ ?_ ?_)
   .simp only[ag,bx,b,dt,ba,bM,aF,aE];and_intros <;> first|exact a|omega
   .simp[ag.cat,ag,aP.same]
   .simp[ag.cat,ag,aP.same]
   .show i+1<=_;omega
   .omega
 obtain rfl:i=s.1.length:=by omega
 refine aX [(11,ae)] 100 rfl (by simp[ag]) (AK.leaveD rfl rfl ?_)
 refine bk rfl av ?_;exact⟨(),.inr rfl,rfl,rfl,_,_,_,rfl,rfl,rfl,av⟩
def xX(s:aZ)(l:c8)(a:dL s)(h:l.1=3)(b:uf s l) :
  cM (ι:=Unit) X 42 [eH s,gh l] [] (λ_=>.e (.agg [aB 0 s.1.length s.1.length,aB 1 s.2.1.length s.2.1.length,.c (Dx s.2.2)])) (λ_=>[.buf 85 2 s.1.length (cP.fn s.1),.buf 64 2 s.2.1.length (cp.fn s.2.1)]):=by
 refine cM.ga tok Tryz.func42 rfl rfl rfl λd=>?_
 refine bk rfl av ?_;refine AK.cQ (iy s a.p a.p2 a.sn a.s2 a.h) [] rfl ?_;refine bk rfl av ?_;refine AK.cQ (wO l h) [] rfl ?_;refine bk rfl av ?_;refine AK.nP (HW s l a b).Bm rfl rfl rfl rfl ?_ rfl ?_
 .simp[ag,ag.cat]
 intro _;refine bk rfl av ?_;refine AK.dE () [3,4] rfl rfl rfl rfl rfl rfl rfl rfl ?_ rfl rfl rfl rfl fO;simp[ag.cat,ag,aP.same]
def AQ(s:aZ)(l:c8)(b:dL s)(h:l.1=3)(a:uf s l):Ev X 42 [eH s,gh l] [] (eH s) []:=AF (xX s l b h a)
abbrev shV(s:aZ)(l:c8):List aV:=[HJ s,.cells 32 (K7 l),.cells 27 [dr,dr,dr],.vec 85 2 s.1.length (cP.fn s.1),.vec 64 2 s.2.1.length (cp.fn s.2.1),.vec 90 2 s.2.2.length (cH.fn s.2.2),
 .cells 27 [.vec 3 2 s.1.length (cP.fn s.1),.vec 4 2 s.2.1.length (cp.fn s.2.1),.vec 5 2 s.2.2.length (cH.fn s.2.2)]]
def HZ(s:aZ)(l:c8)(a:dL s)(h:l.1=3)(n:uf s l):Ev X 17 [eH s,gh l] [] (eH s) []:=by
 refine Ev.iv tok Tryz.func17 rfl rfl rfl λo=>?_
 have b:bD X [(15,od)]:=.cons oN .nil;have m:=a.p;refine aC b [] 100 rfl av ?_;refine AK.cQ (fx s a.p a.p2 a.sn a.s2 a.h) [] rfl ?_;refine aC b [(13,ae),(42,ae),(48,ab)] 100 rfl ?_ ?_
 .simp[ag,h]
 refine AK.bP 7 (λi=>i<=s.1.length) (λi:Nat=>[(3,.e (.one (.ptr 1 0))),(4,.e (.one (.ptr 2 0))),(5,.e (.one (.ptr 6 0))),(8,dI i)]) (λ_=>shV s l) (λi=>s.1.length-i) 0 rfl ?_ rfl ?_ rfl (by omega) ?_
 .simp[ag.cat,ag]
 .simp[ag.cat,ag,aP.same]
 intro i hi
 by_cases h:i<s.1.length
 .have g:=n i h;have f:=a.p2 _ (nw h);have c:s.1.getD (i:Int).toNat cP.bE=s.1.getD i (0,[]):=by rw[bA];rfl
  generalize s.1.getD i (0,[])=p at *
  by_cases d:p.1=l.2.1
  .refine aC b [(54,ab),(66,ab),(78,ae)] 100 rfl ?_ (AK.aQ (i+1) rfl ?_ ?_ ?_ ?_)
   .simp only[ag,bx,c,d,eB,ba,bM,aF,aE];and_intros <;> omega
   .simp[ag.cat,ag,aP.same]
   .simp[ag.cat,ag,aP.same]
   .show i+1<=_;omega
   .omega
  .refine aC b [(54,ab),(66,ae),(78,ae)] 100 rfl ?_ (AK.aQ (i+1) rfl ?_ ?_ ?_ ?_)
   .simp only[ag,bx,c,dt,ba,bM,aF,aE];and_intros <;> first|exact d|omega
   .simp[ag.cat,ag,aP.same]
   .simp[ag.cat,ag,aP.same]
   .show i+1<=_;omega
   .omega
 obtain rfl:i=s.1.length:=by omega
 refine aC b [(54,ae)] 100 rfl (by simp[ag]) (AK.leaveD rfl rfl ?_)
 refine aC b [] 100 rfl av ?_;refine AK.dE () [] rfl rfl rfl rfl rfl rfl rfl rfl ?_ rfl rfl rfl rfl (λj k=>absurd k (by simp))
 simp[ag.cat,ag,aP.same]
structure w7 (s:aZ):Prop where
 size:dL s
 Vn:s.1.Pairwise λa b=>a.1<b.1
 num:∀ x∈s.2.1,-4000000<=x.1/\x.1<=4000000
 h:∀ x∈s.2.2,1<=x.1/\x.1<=2
def LF{s:aZ}(b:w7 s)(l:c8):(∃ i0 m,Ts s l i0 m)∨uf s l:=by
 by_cases h:uf s l
 .exact .inr h
 .refine .inl ?_;simp only[uf,Classical.not_forall,Classical.not_not] at h;obtain⟨i0,hi,c,o,n⟩:=h;refine⟨i0,l.2.2.1.toNat,hi,c,λj d e i=>?_,by omega,by omega⟩
  have k:s.1.getD i0 (0,[])=s.1[i0]:=by grind
  have f:s.1.getD j (0,[])=s.1[j]:=by grind
  rw[k] at c;rw[f] at i;rcases cJ j i0 with a|g
  .have:=j4.1 b.Vn j i0 d hi a;omega
  .have:=j4.1 b.Vn i0 j hi d (by omega)
   omega
structure Vo (X:Cx ah)(s:aZ)(l:c8)(s':aZ):Prop where
 z:dL s'
 a:Ev X 42 [eH s,gh l] [] (eH s') []
 b:Ev X 17 [eH s,gh l] [] (eH s') []
end
section
open Go.Proofs
structure TA (s:aZ):Prop extends ly s where
 pa:s.1.Pairwise λp q=>p.1<q.1
 sa:s.2.1.Pairwise λx y=>x.1<y.1
 hb:∀ h∈s.2.2,1<=h.1/\h.1<=2
def TA.nil:TA ([],[],[]):=⟨⟨by simp,by simp,by simp,by simp,by simp,by simp⟩,by simp,by simp,by simp⟩
def TA.xw{s:aZ}(h:TA s):w7 s:=⟨h.Mc,h.pa,h.O5.s,h.hb⟩
def TA.Zx{s:aZ}(h:TA s):s.2.1.length<=20:=by
 have:=A3 1 h.sa λx a=>(h.a4 x a).1
 omega
def Dl{α:Type}{f:α->Int}{l:List α}(h:l.Pairwise λa b=>f a<f b)(c:l.length≠0)(d:α):∀ x∈l,f x<=f (l.getD (l.length-1) d):=by
 grind [List.getElem_of_mem,List.pairwise_iff_getElem]
def TA.save{k:Int}{s:aZ}{t:List bC}{by_:Int}(h:TA s)(e:dq t=ab)(hb:1<=by_/\by_<=2)(d:j0 k s t=ae):TA (nu k s by_ t):=by
 refine⟨h.toly.save h.Zx e d,?_,?_,λx a=>?_⟩
 .refine List.pairwise_append.2 ⟨h.pa,xi k _ _ _,λx a y b=>?_⟩
  have h1:x.1<iz s:=by
   unfold iz;split
   .grind
   .rename_i c
    have:=Dl (f:=λp:bw=>p.1) h.pa c (0,[]) x a
    omega
  have:=tF k _ _ _ y b;omega
 .refine List.pairwise_append.2 ⟨h.sa,by simp,λx a y b=>?_⟩
  rw[kY] at b;subst b;show x.1<fE s;unfold fE;split
  .grind
  .rename_i c
   have:=Dl (f:=λp:cy=>p.1) h.sa c (0,[]) x a
   omega
 .rcases gC.1 a with a|a
  .exact h.hb x a
  grind
def TA.VM{s:aZ}(h:TA s)(p:cy->Bool):TA (s.1,s.2.1.filter p,s.2.2) :=
 ⟨⟨h.a1,h.a2,eL (j6 _ _) h.a3,λx a=>h.a4 x (mO.1 a).1,h.a5,h.a6⟩,h.pa,h.sa.filter _,h.hb⟩
def TA.step{s:aZ}(h:TA s) (no:Int)(ms:List Int):TA (jo no ms s.1,s.2):=by
 refine⟨⟨?_,λp c=>?_,h.a3,h.a4,h.a5,h.a6⟩,?_,h.sa,h.hb⟩
 .have:(jo no ms s.1).length<=s.1.length:=by unfold jo;grind
  exact eL this h.a1
 .obtain⟨q,a,rfl,_⟩:=Fe c;have:=h.a2 q a
  grind [Fc,za]
 .show (jo no ms s.1).Pairwise _;unfold jo;refine List.Pairwise.filter _ (List.pairwise_map.2 (h.pa.imp λb=>?_))
  grind [za]
structure TW (n:Nat)(w:cN):Prop where
 s:TA w.1
 m:w.2.1.length<=n
 l:w.2.2.length<=20
def TW.mono{n m:Nat}{w:cN}(h:TW n w)(a:n<=m):TW m w:=⟨h.s,eL h.m a,h.l⟩
abbrev Nj:cN:=(([],[],[]),[],[])
def TW.nil{n:Nat}:TW n Nj:=⟨TA.nil,by simp,by simp⟩
def Dj(k:Int)(s:aZ)(a:List Int):cN×Bool :=
 if gG k s=ab then (((s.1,s.2.1.filter λx=>a.contains x.1,s.2.2),fA (s.2.1.filter λx=>a.contains x.1),s.1.map (·.1)),ab) else (Nj,ae)
def MX{s:aZ}(h:ly s):(jy s.2.1).length<=240*21:=by
 have b:=h.a3;have c:(jy s.2.1).length<=240*s.2.1.length:=ku λx a=>oh (h.a4 x a).2
 omega
def TW.beg{k:Int}{s:aZ}{eN:List Int}(h:TA s):TW 6000 (Dj k s eN).1:=by
 unfold Dj;split
 .have a:=h.VM λx=>eN.contains x.1
  refine⟨a,?_,by simp only[k6];exact h.a1⟩
  have h1:=qd (s.2.1.filter λx=>eN.contains x.1) _ (bg _)
  have h2:=MX a.toly
  grind
 .exact TW.nil
def TW.step{n:Nat}{w:cN}(h:TW n w):TW n (A5 w):=by
 unfold A5;split
 .exact h
 .rename_i no r hl
  refine⟨h.s.step _ _,h.m,?_⟩;have:=h.l
  grind
def Dk(k:Int)(w:cN) (by_:Int)(t:List bC):cN:=(nu k w.1 by_ t,(fi (kr (fE w.1) k t).2).foldl kV w.2.1,w.2.2)
def S8(k:Int)(w:cN) (by_:Int)(t:List bC):Bool:=fC k w&&decide (1<=by_/\by_<=2)&&dq t
def TW.save{k:Int}{n:Nat}{w:cN}{t:List bC}{by_:Int}(h:TW n w)(c:dq t=ab)(hb:1<=by_/\by_<=2)(b:j0 k w.1 t=ae):TW (n+240) (Dk k w by_ t):=by
 have a:=h.s.save c hb b;refine⟨a,?_,h.l⟩;have h1:=gH w.2.1 (fi (kr (fE w.1) k t).2);have h2:=ma (kr (fE w.1) k t).2;have d:=oh (a.a4 (kr (fE w.1) k t) (by simp[nu])).2
 have e:=h.m;show ((fi _).foldl kV w.2.1).length<=_;omega
def TW.smS{n:Nat}{w:cN}(h:TW n w):O3 w.1:=h.s.Yz.toO3
def gf(l:List (Int×Int)):Int:=l.foldl (λn h=>64*n+21*h.1+h.2) 0
def jX(m:Int×Int)(l:List (Int×Int)):(Int×Int)×Int :=
 if jw l=ab/\m.1<=l.length/\0<=m.1 then
  if gf (l.take m.1.toNat)=m.2 then (((l.length:Int),gf l),0) else (m,2)
 else (m,1)
def xA{l:List (Int×Int)}(h:∀ x∈l,(1<=x.1/\x.1<=2)/\1<=x.2/\x.2<=20):∀ i,0<=gf (l.take i)/\gf (l.take i)<((64 ^ i:Nat):Int)
 |0=>by simp[gf]
 |i+1=>by
  have a:=xA h i
  by_cases hi:i<l.length
  .have e:gf (l.take (i+1))=64*gf (l.take i)+21*(l.getD i (0,0)).1+(l.getD i (0,0)).2:=by
    unfold gf
    grind [bq]
   grind
  grind [List.take_of_length_le]
def zh{l:List (Int×Int)}(h:jw l=ab):(∀ x∈l,(1<=x.1/\x.1<=2)/\1<=x.2/\x.2<=20)/\l.length<=9:=by
 simp only[jw,bL,ba,cf] at h;refine⟨λx a=>?_,h.2⟩
 have:=(qf (p:=gv) (d:=(0,0))).1 h.1 x a;simpa only[gv,bL,ba] using this
def sK{l:List (Int×Int)}(h:∀ x∈l,(1<=x.1/\x.1<=2)/\1<=x.2/\x.2<=20)(c:l.length<=9)(i:Nat):0<=gf (l.take i)/\gf (l.take i)<18014398509481984:=by
 rcases Nat.le_total i 9 with a|a
 .have b:=xA h i;have:64 ^ i<=64 ^ 9:=zt (by omega) a
  grind
 .rw[uP (by omega)]
  have b:=xA h l.length;rw[b7] at b;have:64 ^ l.length<=64 ^ 9:=zt (by omega) c
  grind
end
section
open Go.Proofs
variable {X:Cx ah}
abbrev VL(s:aZ)(a:List cy)(l:List Int):List aV:=[HJ s,.cells 30 S5,.cells 30 [qR cP s.1,.vec 4 2 a.length (cp.fn a),qR cH s.2.2,dr,.vec 5 1 l.length (cI.fn l)],HJ s,.vec 64 2 a.length (cp.fn a),.vec 3 1 l.length (cI.fn l)]
def map_take{α a:Type}{l:List α}{f:α->a}{i:Nat}(h:i<l.length)(d:α):(l.take (i+1)).map f=(l.take i).map f++[f (l.getD i d)]:=by
 rw[bq h d,rm];rfl
def Bg(l:List cy)(q:cy->Bool):(jy (l.filter q)).length<=(jy l).length:=by
 induction l with
 |nil=>simp
 |cons x l a =>
  unfold jy at *
  grind
def IN(k:Int)(s:aZ)(b:List Int)(g:dL s)(o:O3 s):Ev X 56 [dI k,eH s,cI.sl b] [] (Tw (Dj k s b).1 (Dj k s b).2) []:=by
 refine Ev.ga Tryz.func56 rfl rfl rfl λy=>?_
 have d:bD X [(48,tC),(38,Bc),(47,CJ),(46,xf)]:=.cons yW (.cons GH (.cons Gx (.cons CQ .nil)));have z:=g.p;have w:=g.sn;unfold Dj;cases r:gG k s with
 |false =>
  refine aC d [(15,ab)] 200 rfl ?_ ?_
  .simp only[ag,cP.list_fn,cP.aH,cp.list_fn,cp.aH,cH.list_fn,cH.aH,r,g.p,g.sn,aF,aE,ic];exact o.sm
  refine AK.freeze 6 1 rfl rfl rfl ?_;refine AK.iR tok [] rfl ?_ rfl rfl rfl fO;simp[ag.cat,ag,aP.nil]
 |true =>
 rw[bd rfl];refine aC d [(15,ae),(1000006,ab)] 200 rfl ?_ ?_
 .simp only[ag,cP.list_fn,cP.aH,cp.list_fn,cp.aH,cH.list_fn,cH.aH,r,g.p,g.sn,g,aF,aE,dy];exact o.sm
 refine AK.gm 2 1 64 2 (cp.fn []) rfl rfl ?_;refine AK.gm 2 4 3 1 (cI.fn []) rfl rfl ?_;refine aC d [] 200 rfl av ?_;refine AK.bP 6 (λi=>i<=s.2.1.length) (λi:Nat=>[(2,cI.sl b),(4,.e (.one (.ptr 0 0))),(6,.e (.one (.ptr 1 0))),(8,.e (.one (.ptr 2 0))),(9,.e (.one (.ptr 3 0))),(10,dI i)])
  (λi=>VL s ((s.2.1.take i).filter λx=>b.contains x.1) []) (λi=>s.2.1.length-i) 0 rfl ?_ rfl ?_ rfl (by omega) ?_
 .simp[ag.cat,ag,aP.same]
 .simp[ag.cat,ag,aP.same,aP.nil,cP.list_fn,cp.list_fn,cH.list_fn]
 .intro i hi;have n:=filter_le s.2.1 (λx=>b.contains x.1) hi
  by_cases h:i<s.2.1.length
  .have j:s.2.1.getD i cp.bE=s.2.1.getD i (0,[]):=rfl;have c:(s.2.1.take (i+1)).filter (λx=>b.contains x.1)=if b.contains (s.2.1.getD i (0,[])).1=ab then (s.2.1.take i).filter (λx=>b.contains x.1)++[s.2.1.getD i (0,[])] else (s.2.1.take i).filter (λx=>b.contains x.1):=xu h (0,[])
   generalize (s.2.1.take i).filter (λx=>b.contains x.1)=a at *
   generalize s.2.1.getD i (0,[])=x at *;cases m:b.contains x.1 with
   |true =>
    rw[bd m] at c;have l:=cp.cq a x;refine aC d [(30,ab),(40,ab)] 200 rfl ?_ (AK.aQ (i+1) rfl (by simp[ag.cat,ag,aP.same]) ?_ h (by omega))
    .simp[-ai,-List.contains_eq_mem,ag,j,h,m,cI.list_fn,cI.aH,bx,show i64.bytes=32 from rfl];omega
    .rw[c];simp only[ag.cat,ag,bA,j,bR,er,aF,aE]
     and_intros <;> first|exact aP.same|exact l|rfl|omega
   |false =>
    rw[aY (by rw[m];simp)] at c
    refine aC d [(30,ab),(40,ae)] 200 rfl ?_ (AK.aQ (i+1) rfl (by simp[ag.cat,ag,aP.same]) ?_ h (by omega))
    .simp[-ai,-List.contains_eq_mem,ag,j,h,m,cI.list_fn,cI.aH,bx];omega
    .rw[c];simp[ag.cat,ag,aP.same]
  obtain rfl:i=s.2.1.length:=by omega
  rw[b7] at n ⊢;have v:=Bg s.2.1 λx=>b.contains x.1
  have q:iT (s.1,s.2.1.filter (λx=>b.contains x.1),s.2.2):=λx l=>g.s2 x (mO.1 l).1
  have t:=o.aN;generalize s.2.1.filter (λx=>b.contains x.1)=sn at *
  refine aC d [(30,ae)] 200 rfl (by simp[ag]) (AK.leaveD rfl rfl ?_)
  refine aC d [] 200 rfl av ?_;refine AK.bP 6 (λi=>i<=s.1.length) (λi:Nat=>[(2,cI.sl b),(4,.e (.one (.ptr 0 0))),(6,.e (.one (.ptr 1 0))),(8,.e (.one (.ptr 2 0))),(11,dI i)])
   (λi=>VL s sn ((s.1.take i).map (·.1))) (λi=>s.1.length-i) 0 rfl (by simp[ag.cat,ag,aP.same]) rfl (by simp[ag.cat,ag,aP.same,aP.nil]) rfl (by omega) ?_
  intro i hi;have u:((s.1.take i).map (·.1)).length=i:=by simp;omega
  by_cases h:i<s.1.length
  .have j:s.1.getD i cP.bE=s.1.getD i (0,[]):=rfl;have c:=map_take (f:=λp:bw=>p.1) h (0,[])
   generalize (s.1.take i).map (λp:bw=>p.1)=a at *
   generalize s.1.getD i (0,[])=p at *;have l:=cI.cq a p.1;refine aC d [(57,ab)] 200 rfl ?_ (AK.aQ (i+1) rfl (by simp[ag.cat,ag,aP.same]) ?_ h (by omega))
   .simp[-ai,ag,j,h,bx,show i3.bytes=8 from rfl];omega
   .rw[c];simp only[ag.cat,ag,bA,j,bR,er,aF,aE]
    and_intros <;> first|exact aP.same|exact l|rfl|omega
  obtain rfl:i=s.1.length:=by omega
  rw[b7];refine aC d [(57,ae)] 200 rfl (by simp[ag]) (AK.leaveD rfl rfl ?_)
  refine aC d [] 200 rfl ?_ ?_
  .simp only[ag,cP.list_fn,cP.aH,cp.list_fn,cp.aH,cH.list_fn,cH.aH,aF,aE];exact⟨q,by omega,by omega⟩
  refine AK.freeze 8 2 rfl rfl rfl ?_;refine AK.freeze 6 1 rfl rfl rfl ?_;refine AK.iR tok [] rfl ?_ rfl rfl rfl fO;simp[ag.cat,ag,aP.same,cp.list_fn]
abbrev GJ:dk:=Dw aI Ou (aL cI) (λk s a=>Tw (Dj k s a).1 (Dj k s a).2) λ_ s _=>[dL s,O3 s]
def Pu:dM X 56 GJ:=.I8 λk s a h=>IN k s a h.1 h.2
def Bi(l:c8)(p:bw):bw:=if p.1=l.2.1/\0<=l.2.2.1/\l.2.2.1<p.2.length then (p.1,dn p.2 l.2.2.1.toNat l.2.2.2) else p
def tM(s:aZ)(l:c8):aZ :=
 if l.1=1 then (s.1.filter λx=>!(x.1==l.2.1),s.2.1,s.2.2)
 else if l.1=2 then (if l.2.1<0∨l.2.1>s.2.2.length then s else (s.1,s.2.1.filter λx=>!gU l.2.1.toNat s.2.2 x,s.2.2.take l.2.1.toNat))
 else if l.1=3 then (s.1.map (Bi l),s.2)
 else if l.1=4 then (if 0<=l.2.1/\l.2.1<s.2.2.length then (s.1,s.2.1,s.2.2.set l.2.1.toNat (3-(s.2.2.getD l.2.1.toNat (0,0)).1,(s.2.2.getD l.2.1.toNat (0,0)).2)) else s)
 else s
def GM{s:aZ}{l:c8}(h:uf s l):s.1.map (Bi l)=s.1:=by
 apply pI (by simp)
 intro i b a;rw[List.getElem_map];have:=h i a;rw[ai,br a,fJ] at this;exact aY this
def Dm{s:aZ}{l:c8}{i0 m:Nat}(h:Ts s l i0 m):s.1.map (Bi l)=(gL s l i0 m).1:=by
 have hi:=h.i
 apply iM
 intro j;have e:(gL s l i0 m).1=s.1.set i0 ((s.1.getD i0 (0,[])).1,dn (s.1.getD i0 (0,[])).2 m l.2.2.2):=rfl;rw[e,nE]
 by_cases b:j<s.1.length
 .have c:s.1[j]?=aa (s.1.getD j (0,[])):=by grind
  by_cases a:j=i0
  .subst a;rw[fI b,c];have g:=h.ml;have d:=h.at';simp only[j9,Bi];rw[bd ⟨h.no,by omega,by omega⟩,d,bA]
  .rw[iL (λh=>a h.symm),c]
   simp only[j9,Bi];rw[aY (λf=>h.ne j b a f.1)]
 grind
structure VN (X:Cx ah)(s:aZ)(l:c8)(s':aZ):Prop where
 z:dL s'
 b:Ev X 17 [eH s,gh l] [] (eH s') []
def zg{s:aZ}(n:w7 s)(l:c8):VN X s l (tM s l):=by
 have a:=n.size;have w:=a.h;unfold tM
 by_cases q:l.1=1
 .rw[bd q];exact⟨⟨eL (j6 _ _) a.p,λp j=>a.p2 p (mO.1 j).1,a.sn,a.s2,a.h⟩,HN s l a q⟩
 rw[aY q]
 by_cases k:l.1=2
 .rw[bd k]
  by_cases c:l.2.1<0∨l.2.1>s.2.2.length
  .rw[bd c];exact⟨a,yM s l s a k (EM s l.2.1 a.h c)⟩
  .rw[aY c];have o:l.2.1=(l.2.1.toNat:Nat):=by omega
   have r:=EN (X:=X) s l.2.1.toNat (by omega) a.sn n.num a.h
   rw[<-o] at r;refine⟨⟨a.p,a.p2,eL (j6 _ _) a.sn,λx u=>a.s2 x (mO.1 u).1,?_⟩,yM s l _ a k r⟩
   simp;omega
 rw[aY k]
 by_cases c:l.1=3
 .rw[bd c];rcases LF n l with⟨i0,m,d⟩|o
  .have e:(s.1.map (Bi l),s.2)=gL s l i0 m:=by rw[Dm d]
   rw[e];refine⟨⟨by simpa using a.p,λp j=>?_,a.sn,a.s2,a.h⟩,HY s l a c i0 m d⟩
   rcases List.mem_or_eq_of_mem_set j with j|rfl
   .exact a.p2 p j
   .simpa[dn] using a.p2 _ (nw d.i)
  .rw[GM o];exact⟨a,HZ s l a c o⟩
 rw[aY c]
 by_cases f:l.1=4
 .rw[bd f]
  by_cases g:0<=l.2.1/\l.2.1<s.2.2.length
  .rw[bd g];have v:(s.2.2.getD (0+l.2.1.toNat) cH.bE)∈s.2.2:=by
    grind
   have r:=n.h _ v;have t:bx .i64 (3-EI s l):=by
    show -9223372036854775808<=_/\_<=9223372036854775807;unfold EI;omega
   have b:=HP (X:=X) s l a f g.1 g.2 t;have e:s.2.2.set (0+l.2.1.toNat) (3-EI s l,(s.2.2.getD (0+l.2.1.toNat) cH.bE).2)=s.2.2.set l.2.1.toNat (3-(s.2.2.getD l.2.1.toNat (0,0)).1,(s.2.2.getD l.2.1.toNat (0,0)).2):=by
    grind
   rw[e] at b;exact⟨⟨a.p,a.p2,a.sn,a.s2,by simpa using a.h⟩,b⟩
  .rw[aY g];exact⟨a,EP s l a f g⟩
 .rw[aY f];exact⟨a,HM s l a q k c f⟩
def VO{s:aZ}(n:w7 s)(l:c8):Ev X 42 [eH s,gh l] [] (eH (tM s l)) []:=by
 have c:=n.size;have r:=c.h;unfold tM
 by_cases k:l.1=1
 .rw[bd k];exact Cr s l c k
 rw[aY k]
 by_cases i:l.1=2
 .rw[bd i]
  by_cases b:l.2.1<0∨l.2.1>s.2.2.length
  .rw[bd b];exact AF (xU s l c i b)
  .rw[aY b];have j:l.2.1=(l.2.1.toNat:Nat):=by omega
   exact Cs s l c i l.2.1.toNat j (by omega)
 rw[aY i]
 by_cases b:l.1=3
 .rw[bd b];rcases LF n l with⟨i0,m,g⟩|j
  .have e:(s.1.map (Bi l),s.2)=gL s l i0 m:=by rw[Dm g]
   rw[e];exact Cz s l c b i0 m g
  .rw[GM j];exact AQ s l c b j
 rw[aY b]
 by_cases f:l.1=4
 .rw[bd f]
  by_cases d:0<=l.2.1/\l.2.1<s.2.2.length
  .rw[bd d];have p:(s.2.2.getD (0+l.2.1.toNat) cH.bE)∈s.2.2:=by
    grind
   have q:=n.h _ p;have o:bx .i64 (3-EI s l):=by
    show -9223372036854775808<=_/\_<=9223372036854775807;unfold EI;omega
   have a:=Ax (X:=X) s l c f d.1 d.2 o
   grind
  .rw[aY d];exact Ay s l c f d
 .rw[aY f];exact AF (AE s l c k i b f)
def IM{s:aZ}(a:w7 s)(l:c8):Vo X s l (tM s l):=⟨(zg (X:=X) a l).z,VO a l,(zg a l).b⟩
structure xy (l:List (Int×Int)):Prop where
 h:∀ x∈l,(1<=x.1/\x.1<=2)/\1<=x.2/\x.2<=20
 n:l.length<=9
theorem xy.of{l:List (Int×Int)}(h:jw l=ab):xy l:=⟨(zh h).1,(zh h).2⟩
def xy.take{l:List (Int×Int)}(h:xy l)(i:Nat):xy (l.take i):=⟨λx a=>h.h x (iK a),by have:=h.n;rw[List.length_take];omega⟩
def zi{l:List (Int×Int)}{i:Nat}(h:i<l.length):gf (l.take (i+1))=64*gf (l.take i)+21*(l.getD i (0,0)).1+(l.getD i (0,0)).2:=by
 unfold gf;rw[bq h (0,0),nJ];rfl
def MS(l:List (Int×Int))(a:xy l):Ev X 63 [cH.sl l] [] (dI (gf l)) []:=by
 refine Ev.bQ Tryz.func63 rfl λd=>?_
 have j:=a.n;refine bk rfl av ?_;refine AK.bP 0 (λi=>i<=l.length) (λi:Nat=>[(0,cH.sl l),(3,dI (gf (l.take i))),(4,dI i)]) (λ_=>[]) (λi=>l.length-i) 0 rfl (by simp[ag.cat,ag,aP.same,gf]) rfl av rfl (by omega) ?_
 intro i hi
 by_cases h:i<l.length
 .have b:l.getD i cH.bE=l.getD i (0,0):=rfl;have f:=zi h;have e:=sK a.h a.n i;have c:=sK a.h a.n (i+1);have g:=a.h _ (gO h (0,0));refine aX [(8,ab)] 100 rfl ?_ (AK.aQ (i+1) rfl ?_ av h (by omega))
  .simp only[ag,bA,b,bx,ba,aF,aE];and_intros <;> omega
  .simp only[ag.cat,ag,bA,b,aF,aE]
   and_intros <;> first|exact aP.same|omega
 obtain rfl:i=l.length:=by omega
 rw[b7];refine aX [(8,ae)] 100 rfl (by simp[ag]) (AK.leaveD rfl rfl ?_)
 exact bk rfl av (AK.bn rfl (by simp[ag]))
abbrev MT:dk:=jZ (aL cH) (λl=>dI (gf l)) λl=>[xy l]
def S6:dM X 63 MT:=.ox λl h=>MS l h
abbrev Ft(m:Int×Int):D:=.e (.agg [.c (.int .i64 m.1),.c (.int .i64 m.2)])
abbrev S7(q:(Int×Int)×Int):D:=.eK [.agg [.c (.int .i64 q.1.1),.c (.int .i64 q.1.2)],.one (.c (.int .i64 q.2))]
def GK(m:Int×Int)(l:List (Int×Int))(o:l.length<=4000000):Ev X 36 [Ft m,cH.sl l] [] (S7 (jX m l)) []:=by
 refine Ev.ga Tryz.func36 rfl rfl rfl λk=>?_
 have b:bD X [(62,lJ),(63,MT)]:=.cons Gy (.cons S6 .nil);unfold jX;cases a:jw l with
 |false =>
  rw[aY (by simp)]
  refine aC b [(8,ab),(15,ab),(20,ab)] 200 rfl (by simp[ag,a,cH.list_fn,cH.aH]) ?_
  refine AK.freeze 4 1 rfl rfl rfl ?_;exact AK.iR tok [] rfl (by simp[ag.cat,ag]) rfl rfl rfl fO
 |true =>
 have d:=xy.of a
 by_cases f:m.1<=l.length
 rotate_left
 .rw[aY (by simp[f])]
  refine aC b [(8,ae),(15,ab),(20,ab)] 200 rfl ?_ ?_
  .simp only[ag,a,cH.list_fn,cH.aH,dy,ba,aF,aE];omega
  refine AK.freeze 4 1 rfl rfl rfl ?_;exact AK.iR tok [] rfl (by simp[ag.cat,ag]) rfl rfl rfl fO
 by_cases e:0<=m.1
 rotate_left
 .rw[aY (by simp[e])]
  refine aC b [(8,ae),(15,ae),(20,ab)] 200 rfl ?_ ?_
  .simp only[ag,a,cH.list_fn,cH.aH,dy,ba,bM,aF,aE];omega
  refine AK.freeze 4 1 rfl rfl rfl ?_;exact AK.iR tok [] rfl (by simp[ag.cat,ag]) rfl rfl rfl fO
 rw[bd ⟨rfl,f,e⟩];have n:(m.1.toNat:Int)=m.1:=rf e;have h:cH.list (cv l.length (aa m.1)-cv 0 af) (jL (cv 0 af) (cH.fn l))=l.take m.1.toNat:=by
  have j:cv l.length (aa m.1)-cv 0 af=m.1.toNat:=by simp[cv]
  rw[j,cH.yG l (λi hi=>by simp[jL,cv]) (by omega)]
 have g:cH.fits (cv l.length (aa m.1)-cv 0 af) (jL (cv 0 af) (cH.fn l)):=cH.Gq l (λi hi=>by simp[jL,cv])
 by_cases c:gf (l.take m.1.toNat)=m.2
 .rw[bd c];refine aC b [(8,ae),(15,ae),(20,ae),(29,ae)] 200 rfl ?_ ?_
  .simp only[ag,iQ,h,g,a,d,d.take,c,cH.list_fn,cH.aH,dy,ba,bM,kZ,aF,aE];omega
  refine AK.freeze 4 1 rfl rfl rfl ?_;exact AK.iR tok [] rfl (by simp[ag.cat,ag,cH.list_fn]) rfl rfl rfl fO
 .rw[aY c];refine aC b [(8,ae),(15,ae),(20,ae),(29,ab)] 200 rfl ?_ ?_
  .simp only[ag,iQ,h,g,a,d,d.take,cH.list_fn,cH.aH,dy,ba,bM,jF,aF,aE];and_intros <;> first|exact c|omega
  refine AK.freeze 4 1 rfl rfl rfl ?_;exact AK.iR tok [] rfl (by simp[ag.cat,ag]) rfl rfl rfl fO
def sL(k:Int)(w:cN) (by_:Int)(t:List bC):cN×Bool :=
 if S8 k w by_ t=ab then (if j0 k w.1 t=ab then (w,ae) else (Dk k w by_ t,ab)) else (Nj,ae)
structure MQ (w:cN):Prop where
 s:dL w.1
 m:O3 w.1
 n:w.2.1.length<=4000000
 l:w.2.2.length<=4000000
def TW.sz{n:Nat}{w:cN}(h:TW n w)(hn:n<=1000000):MQ w:=⟨h.s.toly.Mc,h.smS,by have:=h.m;omega,by have:=h.l;omega⟩
def yc(k:Int)(w:cN) (by_:Int)(t:List bC)(c:MQ w):Ev X 96 [dI k,Ja w,dI by_,cF.sl t] [] (Tw (sL k w by_ t).1 (sL k w by_ t).2) []:=by
 refine Ev.ga Tryz.func96 rfl rfl rfl λM=>?_
 have b:bD X [(26,tE),(15,od),(53,Tt),(61,vl),(87,AX),(88,AV)]:=.cons yX (.cons oN (.cons t53 (.cons Bd (.cons Gz (.cons EZ .nil)))));have u:=c.m;have a:(w.1,w.2.1,w.2.2)=w:=rfl;have p:sL k w by_ t=if fC k w=ab then (if 1<=by_/\by_<=2 then (if dq t=ab then (if j0 k w.1 t=ab then (w,ae) else (Dk k w by_ t,ab)) else (Nj,ae)) else (Nj,ae)) else (Nj,ae):=by
  unfold sL S8
  by_cases f:fC k w=ab <;> by_cases o:1<=by_/\by_<=2 <;> by_cases j:dq t=ab <;> simp[f,o,j]
 rw[p];cases f:fC k w with
 |false =>
  rw[aY (by simp)]
  refine aC b [(18,ab),(23,ab),(28,ab)] 200 rfl ?_ ?_
  .simp only[ag,cP.list_fn,cP.aH,cp.list_fn,cp.aH,cH.list_fn,cH.aH,cI.list_fn,cI.aH,a,f,u,ic,aF,aE]
  refine AK.freeze 8 1 rfl rfl rfl ?_;exact AK.iR tok [] rfl (by simp[ag.cat,ag,aP.nil]) rfl rfl rfl fO
 |true =>
 rw[bd rfl]
 by_cases o:1<=by_/\by_<=2
 rotate_left
 .rw[aY o];refine aC b [(18,ae),(23,ab),(28,ab)] 200 rfl ?_ ?_
  .simp only[ag,cP.list_fn,cP.aH,cp.list_fn,cp.aH,cH.list_fn,cH.aH,cI.list_fn,cI.aH,a,f,u,dy,aF,aE]
   grind
  refine AK.freeze 8 1 rfl rfl rfl ?_;exact AK.iR tok [] rfl (by simp[ag.cat,ag,aP.nil]) rfl rfl rfl fO
 rw[bd o];cases j:dq t with
 |false =>
  rw[aY (by simp)]
  refine aC b [(18,ae),(23,ae),(28,ab)] 200 rfl ?_ ?_
  .simp only[ag,cP.list_fn,cP.aH,cp.list_fn,cp.aH,cH.list_fn,cH.aH,cI.list_fn,cI.aH,cF.list_fn,cF.aH,a,f,o,j,u,ig,nO,dy,ic,aF,aE]
  refine AK.freeze 8 1 rfl rfl rfl ?_;exact AK.iR tok [] rfl (by simp[ag.cat,ag,aP.nil]) rfl rfl rfl fO
 |true =>
 rw[bd rfl];have z:=ur.1 f;have B:=z.toqS.Vs;have K:=B.O5;have d:=HK (X:=X) k w.1 by_ t z.key c.s K (uq j) B.fG;cases A:j0 k w.1 t with
 |true =>
  rw[A,bd rfl] at d;rw[bd rfl];refine aC b [(18,ae),(23,ae),(28,ae)] 200 rfl ?_ ?_
  .simp only[ag,cP.list_fn,cP.aH,cp.list_fn,cp.aH,cH.list_fn,cH.aH,cI.list_fn,cI.aH,cF.list_fn,cF.aH,a,f,o,j,u,ig,nO,dy,ic,aF,aE]
  refine AK.cQ d [] rfl ?_;refine aC b [(42,ab)] 200 rfl ?_ ?_
  .simp only[ag,cP.list_fn,cP.aH,cp.list_fn,cp.aH,cH.list_fn,cH.aH,cI.list_fn,cI.aH,a,c.s,c.n,c.l,dy,ic,aF,aE]
  refine AK.freeze 8 1 rfl rfl rfl ?_;exact AK.iR tok [] rfl (by simp[ag.cat,ag,aP.same,cP.list_fn,cp.list_fn,cH.list_fn,cI.list_fn]) rfl rfl rfl fO
 |false =>
 rw[A,aY (by simp)] at d
 rw[aY (by simp)]
 refine aC b [(18,ae),(23,ae),(28,ae)] 200 rfl ?_ ?_
 .simp only[ag,cP.list_fn,cP.aH,cp.list_fn,cp.aH,cH.list_fn,cH.aH,cI.list_fn,cI.aH,cF.list_fn,cF.aH,a,f,o,j,u,ig,nO,dy,ic,aF,aE]
 refine AK.cQ d [] rfl ?_;have y:=B.save (k:=k) (t:=t) (by_:=by_) (by have:=A3 1 z.sa λx L=>(z.sn x L).1;omega) j A
 have E:(nu k w.1 by_ t).2.1.length=w.1.2.1.length+1:=by simp[nu]
 have g:(nu k w.1 by_ t).2.1.getD ((nu k w.1 by_ t).2.1.length-1) (0,[])=kr (fE w.1) k t:=by
  rw[E];simp[nu,ai]
 have v:=y.a4 (kr (fE w.1) k t) (by grind)
 have H:=oh v.2;have J:=ma (kr (fE w.1) k t).2;have I:=y.a3;have G:=c.n;unfold Dk;generalize nu k w.1 by_ t=s' at *;generalize kr (fE w.1) k t=x at *;have r:((s'.2.1.length:Int)-1).toNat=s'.2.1.length-1:=by omega
 have F:s'.2.1.getD ((s'.2.1.length:Int)-1).toNat cp.bE=x:=by rw[r];exact g
 refine aC b [(42,ae)] 200 rfl ?_ ?_
 .simp only[ag,F,cP.list_fn,cP.aH,cp.list_fn,cp.aH,cH.list_fn,cH.aH,cI.list_fn,cI.aH,cL.list_fn,cL.aH,a,c.s,c.n,c.l,bx,dy,ic,aF,aE];have:=v.2.1
  and_intros <;> omega
 rw[F];simp only[cL.list_fn];generalize fi x.2=ns at *;refine AK.bP 4 (λi=>i<=ns.length) (λi:Nat=>[(5,.e (.one (.ptr 0 0))),(8,.e (.one (.ptr 1 0))),(10,.e (.one (.ptr 2 0))),(12,.e (.one (.ptr 3 0))),(13,cI.sl ns),(14,dI i)])
  (λi=>[Ni w,.cells 30 S5,HJ s',Ni (s',(ns.take i).foldl kV w.2.1,w.2.2)]) (λi=>ns.length-i) 0 rfl ?_ rfl ?_ rfl (by omega) ?_
 .simp[ag.cat,ag,aP.same]
 .simp[ag.cat,ag,aP.same,aP.nil,cP.list_fn,cp.list_fn,cH.list_fn,cI.list_fn]
 intro i hi
 by_cases h:i<ns.length
 .have q:ns.getD i cI.bE=ns.getD i 0:=rfl;have D:=tD kV w.2.1 h;have C:=gH w.2.1 (ns.take i);rw[List.length_take] at C;generalize (ns.take i).foldl kV w.2.1=a2 at *;have e:=cI.list_fn a2;refine aC b [(58,ab)] 200 rfl ?_ (AK.aQ (i+1) rfl ?_ ?_ h (by omega))
  .simp[-ai,ag,q,h,e,cI.aH,bx];omega
  .simp[ag.cat,ag,aP.same]
  .rw[D];simp[-ai,ag.cat,ag,q,e,aP.same]
 obtain rfl:i=ns.length:=by omega
 rw[b7];refine aC b [(58,ae)] 200 rfl (by simp[ag]) (AK.leaveD rfl rfl ?_)
 refine aC b [] 200 rfl av ?_;refine AK.freeze 8 1 rfl rfl rfl ?_;exact AK.iR tok [] rfl (by simp[ag.cat,ag,aP.same]) rfl rfl rfl fO
end
end Go.AM.R1
