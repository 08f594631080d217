/- Part 5. No condition. -/
import Derived.Test.YtpddeenenibhjaaGreatDoorA4
set_option linter.all false
set_option maxHeartbeats 8000000
open Go.Proofs
open Go renaming Value → ai, TypeId → aw, Frame → aU, FuncId → aJ, execOp → ak, undef → ah, Operand → aC, World → aA, Program → aM, Oper → aB, Goroutine → aq
open Option renaming some → aa, none → af
open Bool renaming true → ab, false → ae
open List renaming getD_eq_getElem?_getD → aj, range → bh
open Nat renaming beq → av, ble → bu
open Go.Op renaming bytesLess → bc
open Go.Proofs.Tryz renaming prog → ag
namespace Go.AM.R1
def jF(a:UInt8)(s:Bs):iq (a::s)=if a=47 then 0 else if iq s=-1 then -1 else iq s+1:=by unfold iq;grind[Lib.indexByte.eq_def]
def uG:iq []=-1:=by unfold iq;rw[Lib.indexByte.eq_def]
def GW(s:Bs):eQ s=dE s:=by
 by_cases i:s.length<=3
 .match s,i with
  |[],_=>simp[eQ,dE,cu,jc,uG]
  |[a],_ =>
   by_cases d:a=47
   .subst d;simp[eQ,dE,cu,jc,me,jM,jF,lM,cw]
   .simp[eQ,dE,cu,jc,jM,jF,uG,d,lM,cw]
  |[a,b],_ =>
   by_cases d:a=47
   .subst d;simp[eQ,dE,cu,jc,me,jM,jF]
   .by_cases e:b=47
    .subst e;simp[eQ,dE,cu,jc,me,jM,jF,d]
    .simp[eQ,dE,cu,jc,jM,jF,uG,d,e]
  |[a,b,c],_ =>
   by_cases d:a=47
   .subst d;simp[eQ,dE,cu,jc,me,jM,jF,lM,cw]
   .by_cases e:b=47
    .subst e;simp[eQ,dE,cu,jc,me,jM,jF,d,lM,cw]
    .have f:¬(b.toNat:Int)=47:=by intro h;apply e;apply pt.1;grind
     by_cases g:c=47
     .subst g;simp[eQ,dE,cu,jc,me,jM,jF,d,e,lM,cw]
     .simp[eQ,dE,cu,jc,jM,jF,uG,d,e,g,f,lM,cw]
  |_::_::_::_::_,h=>grind
 .have j:dE s=ae:=by unfold dE;grind
  grind[tC]
end Go.AM.R1
namespace Go.AM
theorem rT(a:Bs):bc a []=ae:=by rw[Op.bytesLess.eq_def]
def wx(b:UInt8)(l:Bs):bc [] (b::l)=ab:=by rw[Op.bytesLess.eq_def]
theorem rU(a b:UInt8)(x y:Bs):bc (a::x) (b::y)=(decide (a<b)||a==b&&bc x y):=by rw[Op.bytesLess.eq_def]
theorem pV:∀a:Bs,bc a a=ae
 |[]=>rT []
 |a::l=>by rw[rU,pV l];simp
def BU:∀a b:Bs,bc a b=ab∨a=b∨bc b a=ab
 |[],[]=>.inr (.inl rfl)
 |[],b::y=>.inl (wx b y)
 |a::x,[]=>.inr (.inr (wx a x))
 |a::x,b::y=>by
  rw[rU,rU];rcases BU x y with h|h|h
  .grind
  .grind
  grind
theorem wy:∀{a b c:Bs},bc a b=ab->bc b c=ab->bc a c=ab
 |a,b,[],_,d=>by grind[rT]
 |a,[],c::z,e,_=>by grind[rT]
 |[],b::y,c::z,_,_=>wx c z
 |a::x,b::y,c::z,e,d=>by
  rw[rU,my,bS,bl,hO]at e d⊢;rcases e with e|⟨rfl,e⟩
  .grind
  .rcases d with d|⟨rfl,d⟩
   .grind
   .exact .inr ⟨rfl,wy e d⟩
theorem BV{a b:Bs}(h:bc a b=ab):bc b a=ae:=by grind[wy,pV]
def Rf{a b:Bs}:(!(bc b a||b==a))=bc a b:=by
 rcases BU a b with h|h|h
 .have c:(b==a)=ae:=by simp only[fy,cR];grind[pV]
  grind[BV]
 .grind [pV]
 grind[BV]
namespace R1
def Uu{t:List bz}{i:Nat}(h:∀k,0<k->k<=i->bc (eY t (k-1)) (eY t k)=ab):∀j,j<i->bc (eY t j) (eY t i)=ab:=by
 intro j f;induction i with
 |zero=>omega
 |succ i d =>
  have c:=h (i+1) (by omega) (aZ _);simp only[pq]at c;by_cases e:j=i
  .grind
  .exact wy (d (λk a b=>h k a (by omega)) (by omega)) c
def tD{s:Bs}(h:dE s=ab):(∃a,s=[a])∨∃a b,s=[a,47,b]:=by
 unfold dE at h;split at h
 .rename_i d
  match s,d with
  |[a],_=>grind
 .split at h
  .rename_i d
   match s,d with
   |[a,b,c],_ =>
    right;simp[lM,cw]at h;have e:b=47:=by apply pt.1;grind
    grind
  grind
theorem BW{p q:Bs}(i:dE p=ab)(g:dE q=ab)(f:bc p q=ab):clash p q=under q p:=by
 rcases tD i with⟨a,rfl⟩|⟨a,b,rfl⟩<;>rcases tD g with⟨c,rfl⟩|⟨c,d,rfl⟩
 .simp[clash,under,kN]
 .by_cases e:a=c
  .subst e;simp[clash,under,kN,cw]
  .have:¬(a.toNat:Int)=c.toNat:=λh=>e (pt.1 (by omega));have j:((a.toNat:Int)==(c.toNat:Int))=ae:=by grind
   have k:(c==a)=ae:=by grind
   simp[clash,under,kN,cw];grind
 .have:¬(a.toNat:Int)=c.toNat:=by grind[UInt8.toNat_inj,rU,rT]
  simp[clash,under,kN,cw,this]
 .simp[clash,under,kN]
theorem yp{t:List bz}{i:Nat}(a:∀j,j<i->gi t j=ab):iR t i=gi t i:=by
 unfold iR gi;rw[GW,Rf];cases h:dE (eY t i)with
 |false=>simp
 |true =>
  cases n:ef (tZ t i)with
  |false=>simp
  |true =>
   cases f:(i==0||bc (eY t (i-1)) (eY t i))with
   |false=>simp
   |true =>
    simp only[fA];have g:∀j,j<i->bc (eY t j) (eY t i)=ab:=by
     apply Uu;intro k l c;by_cases e:k=i
     .grind
     .have:=a k (by omega);simp only[gi,bS,my,hO]at this;grind
    rw[pv,dg,dg];have m:∀j,j<i->clash (eY t j) (eY t i)=under (eY t i) (eY t j):=by
     intro j d;have b:dE (eY t j)=ab:=by have:=a j d;simp only[gi,bS]at this;exact this.1.1.1
     grind[BW]
    grind
def GB(t:List bz):nN t=dq t:=by
 unfold nN dq;congr 1;rw[pv,dg,dg];constructor
 .intro h i;induction i using Nat.strongRecOn with
  |_ i a=>grind[yp]
 grind[yp]
end R1
end Go.AM
namespace Go.AM
variable {n k l b i j:Nat}{E:aw}{H:ai->(Nat->Option Obj)->Prop}{L:Array Bool}{M:Mem}{N:Nat}{P:aM}{S:aq->St->Prop}{c:Code}{g:aq}{o:aB}{s:St}{t:aw}{v:ai}{w:aA}{x y:aC}{α:Type}{η:aC->D}{ι:Type}{σ:List bd}{φ:Fr}{all:List aB}{jJ:Array aw}{cap:List C}{cm:List D}{cs:List aU}{ds:List (Nat×Bool)}{es:Nat->List C}{fo:aC}{gs:Array aq}{obs:List Prop}{off:Nat}{op:BinOp}{ops:Array aB}{ps:List Prop}{rest:List aB}{s':St}{ty:aw}{val:Nat->Nat->ai}{vs:List ai}{w':aA}{xs:Array aC}{σ' σs:List bd}{res:ι->D}{σ1:ι->List bd}
variable {CT:List (Nat×dy)}{K:List It}{Qf:Post}{T:List (Nat×TI)}{ie:TI}
namespace R1
section
variable {X:Cx ag}
def fileOf(k:Int)(ps:List ba)(x:gz):Option bz:=match dD k ps x.2 with
 |none=>af
 |some l=>match fZ l with
  |none=>af
  |some t=>aa (x.1,t)
def cZ(k:Int)(ps:List ba)(l:List gz):List bz:=l.map λx=>(fileOf k ps x).getD ([],[])
def cj(k:Int)(s:cC)(ps:List ba):Option (List bz) :=
 if cB k&&s.2.all (λx=>(fileOf k ps x).isSome)&&dq (cZ k ps s.2)then aa (cZ k ps s.2)else af
abbrev QI(a:List bz)(b:Bool):D:=.fw [.one (.c (.sl ae 2 a.length (cF.fn a))),.one (.c (.bool b))]
abbrev BH(s:cC):D:=.e (.agg [.c (.int .i64 s.1),.c (.sl ae 2 s.2.length (cL.fn s.2))])
theorem oX{k:Int}{ps:List ba}{l:List gz}(h:i<l.length):cZ k ps (l.take (i+1))=cZ k ps (l.take i)++[(fileOf k ps (l.getD i ([],[]))).getD ([],[])]:=by unfold cZ;grind[List.take_add_one]
def oY{k:Int}{ps:List ba}{s:cC}(h:i<s.2.length)(a:fileOf k ps (s.2.getD i ([],[]))=af):cj k s ps=af:=by unfold cj;rw[a9];grind
def xq{k:Int}{ps:List ba}{ns:List Int}{l:List Bs}(h:dD k ps ns=aa l)(a:ns.length<=4000000):l.flatten.length<=140737488355328/\l.length<=4000000:=by
 unfold dD at h;split at h
 .rename_i b;cases h;refine⟨?_,by grind⟩;have key:∀ns:List Int,(ns.all λn=>(c6 k ps n).isSome)=ab->(ns.map λn=>(c6 k ps n).getD []).flatten.length<=8*ns.length:=by
   intro ns;induction ns with
   |nil=>grind
   |cons n ns ih =>
    intro h;simp only[List.all_cons,bS]at h;grind[yb]
  grind
 grind
def BI(k:Int)(s:cC)(ps:List ba)(J:s.2.length<=4000000)(E:∀x∈s.2,x.2.length<=4000000):
  Ev (Cx.beside ag) 70 [dI k,BH s,cP.sl ps] [] (QI ((cj k s ps).getD []) (cj k s ps).isSome) []:=by
 refine Ev.bQ Tryz.func70 rfl λG=>?_;have A:=G.sl 2 rfl;have b:bA (Cx.beside ag) [(49,kB aI (λk=>dB (cB k)) λ_=>[])]:=.cons t49 .nil;cases m:cB k with
 |false =>
  refine aR b [(15,ae),(16,ab)] rfl ?_ (AK.bo rfl ?_)
  .simp[m]
  .simp[cj,m]
 |true =>
  have r:dM (Cx.work ag) 123 (lJ k):=QE TB m;refine aR b [(15,ab),(16,ae),(1000004,ab)] rfl ?_ ?_
  .simp[m]
  refine AK.ix 8 110 2 rfl rfl ?_;refine bZ b rfl ar ?_;refine AK.bY 2 (λi=>i<=s.2.length/\∀j,j<i->(fileOf k ps (s.2.getD j ([],[]))).isSome=ab) (λi:Nat=>[(0,dI k),(2,cP.sl ps),(4,.e (.one (.ptr 0 0))),(8,.e (.one (.vec 1 2 (cZ k ps (s.2.take i)).length (cF.fn (cZ k ps (s.2.take i)))))),(18,cL.sl s.2),(19,dI s.2.length),(20,dI i)]) (λi=>[.cells 39 [.c (.int .i64 s.1),.c (.sl ae 2 s.2.length (cL.fn s.2))],.vec 110 2 (cZ k ps (s.2.take i)).length (cF.fn (cZ k ps (s.2.take i)))]) (λi=>s.2.length-i) 0 rfl ?_ rfl ?_ rfl ⟨by omega,by omega⟩ ?_
  .simp[cZ]
  .simp[cZ]
  rintro i ⟨hi,w⟩;by_cases h:i<s.2.length
  .have o:s.2.getD i ([],[])∈s.2:=by grind
   generalize d:s.2.getD i ([],[])=x at o;have g:=E x o;have f:=BJ r ps x.2 g;cases a:dD k ps x.2 with
   |none =>
    rw[a]at f;refine aR b [(21,ab)] rfl ?_ ?_
    .exact⟨by omega,by omega,dh (by omega)⟩
    refine AK.cQ (d▸f) [] rfl ?_;refine aR b [(33,ab)] rfl ?_ (AK.eX (cd.zero rfl ?_))
    .simp
    .have e:fileOf k ps x=af:=by simp[fileOf,a]
     rw[oY h (by grind)];simp
   |some l =>
    obtain⟨p,I⟩:=xq a g;rw[a]at f;have u:=DJ (X:=Cx.beside ag) l p;refine aR b [(21,ab)] rfl ?_ ?_
    .exact⟨by omega,by omega,dh (by omega)⟩
    refine AK.cQ (d▸f) [] rfl ?_;refine aR b [(33,ae)] rfl ?_ ?_
    .simp
    refine AK.cQ u [] rfl ?_;cases y:fZ l with
    |none =>
     refine aR b [(40,ab)] rfl ?_ (AK.eX (cd.zero rfl ?_))
     .simp
     .have e:fileOf k ps x=af:=by simp[fileOf,a,y]
      rw[oY h (by grind)];simp
    |some t =>
     have e:fileOf k ps x=aa (x.1,t):=by simp[fileOf,a,y]
     have H:s.2.getD (i:Int).toNat cL.bR=x:=d;have F:(cZ k ps (s.2.take i)).length<=4000000:=by simp[cZ];omega
     have B:cp ((cZ k ps (s.2.take i)).length+1) (cy (cZ k ps (s.2.take i)).length (cF.fn (cZ k ps (s.2.take i))) λq=>[[C.str (s.2.getD (i:Int).toNat cL.bR).1,C.str ((aa t).getD [])]].getD q []) (cF.fn (cZ k ps (s.2.take (i+1)))):=by rw[oX h,d,e,H];exact cF.cr (cZ k ps (s.2.take i)) (x.1,t)
     have v:(cZ k ps (s.2.take i)).length+1=(cZ k ps (s.2.take (i+1))).length:=by grind[oX]
     refine aR b [(40,ae)] rfl ?_ (AK.aQ (i+1) rfl ?_ ?_ ?_ ?_)
     .refine⟨by simp only[bw];omega,rfl,rfl,?_,rfl⟩;show _*32<=_;omega
     .refine au.cat.2 ⟨rfl,au.cat.2 ⟨⟨rfl,cp.same⟩,au.cat.2 ⟨ar,au.cat.2 ⟨⟨v,B⟩,au.cat.2 ⟨⟨rfl,cp.same⟩,au.cat.2 ⟨rfl,au.cat.2 ⟨?_,ar⟩⟩⟩⟩⟩⟩⟩;simp
     .exact au.cat.2 ⟨au.cat.2 ⟨rfl,au.cat.2 ⟨⟨rfl,cp.same⟩,ar⟩⟩,au.cat.2 ⟨⟨v,B⟩,ar⟩⟩
     .grind
     .omega
  .have e:i=s.2.length:=by omega
   subst e;refine aR b [(21,ae)] rfl (by simp) (AK.leaveD rfl rfl ?_);rw[cO];have n:=DK (X:=Cx.beside ag) (cZ k ps s.2);rw[GB]at n;refine bZ b rfl ar ?_;refine AK.cQ n [] rfl ?_;have D:s.2.all (λx=>(fileOf k ps x).isSome)=ab:=List.all_eq_true.2 λx o=>by grind[List.mem_iff_getElem]
   cases z:dq (cZ k ps s.2)with
   |false =>
    refine aR b [(51,ab)] rfl ?_ (AK.bo rfl ?_)
    .simp
    .simp[cj,z]
   |true =>
    refine aR b [(51,ae)] rfl ?_ (AK.bo rfl ?_)
    .simp
    .simp[cj,z,m,D]
abbrev bk:=List ba×List cC×List (Int×Int)
def mE(s:bk):Prop:=∀x∈s.2.1,x.2.length<=4000000/\∀y∈x.2,y.2.length<=4000000
abbrev qg(s:bk):D:=.e (.agg [.c (.sl ae 2 s.1.length (cP.fn s.1)),.c (.sl ae 2 s.2.1.length (eG.fn s.2.1)),.c (.sl ae 2 s.2.2.length (cH.fn s.2.2))])
def yc:dy:=Fl aI (CK cL) (aL cP) (λk s ps=>QI ((cj k s ps).getD []) (cj k s ps).isSome) λ_ s _=>[s.2.length<=4000000,∀x∈s.2,x.2.length<=4000000]
def GC:dM (Cx.beside ag) 70 yc:=.LN λk s ps h=>BI k s ps h.1 h.2
def Nd:Arg bk:=⟨qg,λd=>match d with
 |.e (.agg [.c a,.c b,.c c])=>match kr 2 (.e (.one (.c a)))with
  |some (l,g)=>match kr 2 (.e (.one (.c b)))with
   |some (j,k)=>match kr 2 (.e (.one (.c c)))with
    |some (m,i)=>aa ((cP.list l g,eG.list j k,cH.list m i),[cP.fits l g,eG.fits j k,cH.fits m i])
    |none=>af
   |none=>af
  |none=>af
 |_=>af,λ{d a o} h ho σ s v r=>by
 split at h
 .split at h
  .rename_i l g p;split at h
   .rename_i j k x;split at h
    .rename_i m i n;cases h;obtain⟨vs,t,f⟩:=r
     match vs,f with
     |[],f=>exact f.elim
     |[_],f=>exact f.2.elim
     |[_,_],f=>exact f.2.2.elim
     |_::_::_::_::_,f=>exact f.2.2.2.elim
     |[q,w,u],f =>
      exact⟨_,t,cP.jD (σ:=[]) (s:=s) (v:=q) p ho.1 f.1,eG.jD (σ:=[]) (s:=s) (v:=w) x ho.2.1 f.2.1,cH.jD (σ:=[]) (s:=s) (v:=u) n ho.2.2 f.2.2.1,ar⟩
    grind
   grind
  grind
 grind⟩
abbrev fU(p:ba)(i:Nat):cn:=p.2.getD i (0,[])
def iy(k:Int)(p:ba)(i:Nat):Bool:=right k (fU p i)&&(i==0||decide ((fU p (i-1)).1<(fU p i).1))
theorem sQ(k:Int)(p:ba):iX k p=((bh p.2.length).all (iy k p)&&(cB k&&decide (1<=p.1)&&decide (p.1<=99)&&decide (1<=p.2.length)&&decide (p.2.length<=4))):=by
 have e:(p.2.all (right k)&&zW (p.2.map (·.1)))=(bh p.2.length).all (iy k p):=by
  rw[pv,bS,List.all_eq_true,List.all_eq_true];unfold zW;rw[List.all_eq_true];have c:∀i,i<p.2.length->(p.2.map (·.1)).getD i 0=(fU p i).1:=λi hi=>by grind
  constructor
  .rintro⟨a,d⟩ i hi;have hi:=ra.1 hi;have q:=d i (by grind);rw[c i hi]at q;unfold iy;rw[a (fU p i) (by grind),fA];rcases nk i with rfl|f
   .rfl
   grind
  .intro h;refine⟨λx b=>?_,λi hi=>?_⟩
   .obtain⟨i,hi,rfl⟩:=ll.1 b;have:=h i (ra.2 hi);simp only[iy,bS]at this;grind
   .have hi:i<p.2.length:=by grind
    have:=h i (ra.2 hi);simp only[iy,bS]at this;grind
 rw[<-e];unfold iX;cases cB k<;>cases decide (1<=p.1)<;>cases decide (p.1<=99)<;>cases decide (1<=p.2.length)<;>cases decide (p.2.length<=4)<;>simp
def yd{k:Int}{p:ba}(hi:i<p.2.length)(h:iy k p i=ae):iX k p=ae:=by grind[sQ]
theorem qD{k:Int}{x:cn}(a:cB k=ab):(chunk k x).isSome=right k x:=by unfold chunk right;grind
def GD(k:Int)(p:ba)(d:cB k=ab)(u:p.2.length<=4000000):Ev X 80 [dI k,xa p] [] (dB (iX k p)) []:=by
 refine Ev.bQ Tryz.func80 rfl λy=>?_;have a:bA X [(49,kB aI (λk=>dB (cB k)) λ_=>[]),(101,oa Sb aI (λx k=>zR (chunk k x)) λ_ k=>[cB k=ab])]:=.cons t49 (.cons (Jr TB) .nil);refine bZ a rfl ar ?_;refine AK.bY 1 (λi=>i<=p.2.length/\∀j,j<i->iy k p j=ab) (λi:Nat=>[(0,dI k),(3,.e (.one (.ptr 0 0))),(10,er.sl p.2),(11,dI p.2.length),(12,dI i)]) (λ_=>[.cells 43 [.c (.int .i64 p.1),.c (sP p)]]) (λi=>p.2.length-i) 0 rfl ?_ rfl ?_ rfl ⟨by omega,by omega⟩ ?_
 .simp
 .simp
 rintro i ⟨hi,g⟩;by_cases h:i<p.2.length
 .cases m:right k (fU p i)with
  |false =>
   have o:(chunk k (fU p i)).isSome=ae:=by grind[qD]
   refine aR a [(13,ab),(24,ab),(40,ab)] rfl ?_ (AK.eX (cd.zero rfl ?_))
   .refine⟨rfl,?_,d,by omega,by omega,dh (by omega)⟩;grind
   .rw[yd h (by simp only[iy,m,rb])];simp
  |true =>
   have o:(!(chunk k (fU p i)).isSome)=ae:=by grind[qD]
   by_cases w:i=0
   .subst w;refine aR a [(13,ab),(24,ae),(27,ae),(40,ae)] rfl ?_ (AK.aQ 1 rfl ?_ ?_ ⟨by omega,λj l=>?_⟩ (by omega))
    .simp only[au,bw];grind
    .simp
    .simp
    .have:j=0:=by omega
     subst this;simp only[iy,m,fA];rfl
   .have t:((i:Int)-1).toNat=i-1:=by omega
    cases r:decide ((fU p (i-1)).1<(fU p i).1)with
    |false =>
     refine aR a [(13,ab),(24,ae),(27,ab),(38,ab),(40,ab)] rfl ?_ (AK.eX (cd.zero rfl ?_))
     .have q:(p.2.getD ((i:Int)-1).toNat er.bR).1=(fU p (i-1)).1:=by rw[t];rfl
      refine⟨rfl,dh ?_,by omega,by omega,by simp only[bw];omega,dh (by omega),o,d,by omega,by omega,dh (by omega)⟩;rw[q];show(fU p i).1<=_;grind
     .rw[yd h (by simp only[iy,m,r,fA,Bool.or_false];grind)];simp
    |true =>
     refine aR a [(13,ab),(24,ae),(27,ab),(38,ae),(40,ae)] rfl ?_ (AK.aQ (i+1) rfl ?_ ?_ ⟨by omega,λj l=>?_⟩ (by omega))
     .have q:(p.2.getD ((i:Int)-1).toNat er.bR).1=(fU p (i-1)).1:=by rw[t];rfl
      refine⟨by simp only[bw];omega,rfl,gL ?_,by omega,by omega,by simp only[bw];omega,dh (by omega),o,d,by omega,by omega,dh (by omega)⟩;rw[q];show¬(fU p i).1<=_;grind
     .simp
     .simp
     .rcases yP.1 l with l|rfl
      .grind
      .simp only[iy,m,r,fA,Bool.or_true]
 .have e:i=p.2.length:=by omega
  subst e;refine aR a [(13,ae)] rfl (by simp) (AK.leaveD rfl rfl ?_);have v:(bh p.2.length).all (iy k p)=ab:=List.all_eq_true.2 λj l=>g j (ra.1 l);rw[sQ,v,d];by_cases b:1<=p.1
  .by_cases f:p.1<=99
   .by_cases n:1<=p.2.length
    .by_cases s:p.2.length<=4
     .refine aR a [(43,ab),(47,ab),(52,ab),(58,ab),(64,ab)] rfl ?_ (AK.bo rfl ?_)
      .exact⟨dh (by omega),dh (by omega),dh f,dh b,d⟩
      .simp[b,f,n,s]
     .refine aR a [(43,ab),(47,ab),(52,ab),(58,ab),(64,ae)] rfl ?_ (AK.bo rfl ?_)
      .exact⟨gL (by omega),dh (by omega),dh f,dh b,d⟩
      .simp[b,f,n,s]
    .refine aR a [(43,ab),(47,ab),(52,ab),(58,ae)] rfl ?_ (AK.bo rfl ?_)
     .exact⟨gL (by omega),dh f,dh b,d⟩
     .simp[b,f,n]
   .refine aR a [(43,ab),(47,ab),(52,ae)] rfl ?_ (AK.bo rfl ?_)
    .exact⟨gL f,dh b,d⟩
    .simp[b,f]
  .refine aR a [(43,ab),(47,ae)] rfl ?_ (AK.bo rfl ?_)
   .exact⟨gL b,d⟩
   .simp[b]
def Fq:dy:=oa aI (CK er) (λk p=>dB (iX k p)) λk p=>[cB k=ab,p.2.length<=4000000]
def Nf:dM X 80 Fq:=.qC λk p h=>GD k p h.1 h.2
def DQ(l:List (Int×Int))(d:l.length<=4000000):Ev X 64 [cH.sl l] [] (cH.sl l) []:=by
 refine Ev.bQ Tryz.func64 rfl λc=>?_;refine bx rfl ar ?_;refine AK.IX tok rfl rfl rfl rfl rfl rfl λb a=>?_;cases b with
 |true =>
  obtain rfl:=jg (a rfl);refine bx rfl ar ?_;refine AK.bo rfl ?_;simp[cp]
 |false =>
  refine bx rfl ⟨show(0+l.length)*16<=_ by omega,.inl rfl⟩ ?_;refine AK.bo rfl ?_;simp[cp,cy]
def DR(l:List cn)(d:l.length<=4000000):Ev X 93 [er.sl l] [] (er.sl l) []:=by
 refine Ev.bQ Tryz.func93 rfl λc=>?_;refine bx rfl ar ?_;refine AK.IX tok rfl rfl rfl rfl rfl rfl λb a=>?_;cases b with
 |true =>
  obtain rfl:=jg (a rfl);refine bx rfl ar ?_;refine AK.bo rfl ?_;simp[cp]
 |false =>
  refine bx rfl ⟨show(0+l.length)*24<=_ by omega,.inl rfl⟩ ?_;refine AK.bo rfl ?_;simp[cp,cy]
def vZ(l:List Int)(d:l.length<=4000000):Ev X 75 [cI.sl l] [] (cI.sl l) []:=by
 refine Ev.bQ Tryz.func75 rfl λc=>?_;refine bx rfl ar ?_;refine AK.IX tok rfl rfl rfl rfl rfl rfl λb a=>?_;cases b with
 |true =>
  obtain rfl:=jg (a rfl);refine bx rfl ar ?_;refine AK.bo rfl ?_;simp[cp]
 |false =>
  refine bx rfl ⟨show(0+l.length)*8<=_ by omega,.inl rfl⟩ ?_;refine AK.bo rfl ?_;simp[cp,cy]
def _root_.Go.AM.jY.ma(c:jY α)(l:List α)(h:i<l.length)(d:α):cp (i+1) (cy i (c.fn (l.take i)) (λq=>[c.enc (l.getD i d)].getD q [])) (c.fn (l.take (i+1))):=by
 have e:l.take (i+1)=l.take i++[l.getD i d]:=by grind[List.take_add_one]
 have:=c.cr (l.take i) (l.getD i d);grind
abbrev T4:dy:=kB (aL er) (λl=>er.sl l) λl=>[l.length<=4000000]
def Xm:dM X 93 T4:=.ox λl h=>DR l h
abbrev T5:dy:=kB (aL cI) (λl=>cI.sl l) λl=>[l.length<=4000000]
def Xn:dM X 75 T5:=.ox λl h=>vZ l h
def z0(p:ba)(a:p.2.length<=4000000):Ev X 62 [xa p] [] (xa p) []:=by
 refine Ev.vK tok Tryz.func62 rfl rfl rfl λd=>?_;have b:bA X [(93,T4)]:=.cons Xm .nil;refine bZ b rfl ?_ ?_
 .simp only[au,er.list_fn];exact⟨er.aO _,a⟩
 refine AK.lH () [] rfl rfl rfl rfl rfl rfl rfl rfl ?_ rfl rfl rfl rfl (λj c=>absurd c (by simp));simp[er.list_fn]
abbrev OZ:dy:=kB (CK er) (λp=>xa p) λp=>[p.2.length<=4000000]
def T6:dM X 62 OZ:=.ox λp h=>z0 p h
def z8(x:cC)(k:x.2.length<=4000000)(f:∀y∈x.2,y.2.length<=4000000):Ev X 63 [BH x] [] (BH x) []:=by
 refine Ev.vK tok Tryz.func63 rfl rfl rfl λl=>?_;have a:bA X [(75,T5)]:=.cons Xn .nil;refine aR a [(1000002,ab)] rfl ar ?_;refine AK.gf 2 1 95 2 (cL.fn []) rfl rfl ?_;refine bZ a rfl ar ?_;refine AK.bY 4 (λi=>i<=x.2.length) (λi:Nat=>[(2,.e (.one (.ptr 1 0))),(3,.e (.one (.ptr 2 0))),(10,cL.sl x.2),(11,dI x.2.length),(12,dI i)])
  (λi=>[.cells 39 [.c (.int .i64 x.1),.c (.sl ae 2 x.2.length (cL.fn x.2))],.cells 39 [.c (.int .i64 0),.c (.sl ab 0 0 λ_=>[])],.cells 39 [.c (.int .i64 x.1),.vec 3 2 i (cL.fn (x.2.take i))],.vec 95 2 i (cL.fn (x.2.take i))]) (λi=>x.2.length-i) 0 rfl ?_ rfl ?_ rfl (by omega) ?_
 .simp
 .simp[cp]
 intro i hi;by_cases h:i<x.2.length
 .have d:x.2.getD i ([],[])∈x.2:=by grind
  refine aR a [(13,ab)] rfl ?_ (AK.aQ (i+1) rfl ?_ ?_ ?_ ?_)
  .have q:=f _ d;have b:x.2.getD (i:Int).toNat cL.bR=x.2.getD i ([],[]):=by grind
   simp only[au,b,cI.list_fn,bw];exact⟨by omega,ar,ar,show(i+1)*40<=_ by omega,cI.aO _,q,by omega,by omega,dh (by omega)⟩
  .simp
  .have b:x.2.getD (i:Int).toNat cL.bR=x.2.getD i ([],[]):=by grind
   have e:=cL.ma x.2 h ([],[]);simp only[au.cat,au,b,cI.list_fn,aE,aH];exact⟨cp.same,cp.same,e,e⟩
  .grind
  .omega
 .obtain rfl:i=x.2.length:=by omega
  refine aR a [(13,ae)] rfl (by simp) (AK.leaveD rfl rfl ?_);refine bZ a rfl ar ?_;refine AK.lH () [] rfl rfl rfl rfl rfl rfl rfl rfl ?_ rfl rfl rfl rfl (λj g=>absurd g (by simp));simp[cp]
abbrev O0:dy:=kB (CK cL) (λx=>BH x) λx=>[x.2.length<=4000000,∀y∈x.2,y.2.length<=4000000]
def T7:dM X 63 O0:=.ox λx h=>z8 x h.1 h.2
abbrev g6:A:=.c (.sl ab 0 0 λ_=>[])
def oZ(s:bk)(n:s.1.length<=4000000)(g:∀p∈s.1,p.2.length<=4000000)(o:s.2.1.length<=4000000)(f:mE s)(k:s.2.2.length<=4000000):
  Ev X 28 [qg s] [] (.e (.agg [.bp 0 (.sl s.1.length 2 0 s.1.length),.bp 1 (.sl s.2.1.length 2 0 s.2.1.length),.c (.sl ae 2 s.2.2.length (cH.fn s.2.2))])) [.buf 43 2 s.1.length (cP.fn s.1),.buf 39 2 s.2.1.length (eG.fn s.2.1)]:=by
 refine Ev.vK tok Tryz.func28 rfl rfl rfl λm=>?_;have a:bA X [(62,OZ),(63,O0)]:=.cons T6 (.cons T7 .nil);refine aR a [(1000002,ab)] rfl ar ?_;refine AK.vM 2 0 43 2 (cP.fn []) rfl rfl ?_;refine AK.vM 2 1 39 2 (eG.fn []) rfl rfl ?_;refine bZ a rfl ar ?_;refine AK.bY 5 (λi=>i<=s.1.length) (λi:Nat=>[(1,.e (.one (.ptr 0 0))),(2,.e (.one (.ptr 1 0))),(3,.e (.one (.ptr 2 0))),(9,cP.sl s.1),(10,dI s.1.length),(11,dI i)])
  (λi=>[.cells 27 [.c (.sl ae 2 s.1.length (cP.fn s.1)),.c (.sl ae 2 s.2.1.length (eG.fn s.2.1)),.c (.sl ae 2 s.2.2.length (cH.fn s.2.2))],.cells 27 [g6,g6,g6],.cells 27 [.bp 3 (.sl i 2 0 i),.bp 4 (.sl 0 2 0 0),g6],.buf 43 2 i (cP.fn (s.1.take i)),.buf 39 2 0 (eG.fn [])]) (λi=>s.1.length-i) 0 rfl ?_ rfl ?_ rfl (by omega) ?_
 .simp
 .simp[cp]
 intro i hi;by_cases h:i<s.1.length
 .have d:s.1.getD i (0,[])∈s.1:=by grind
  have b:s.1.getD (i:Int).toNat cP.bR=s.1.getD i (0,[]):=by grind
  refine aR a [(12,ab)] rfl ?_ (AK.aQ (i+1) rfl ?_ ?_ ?_ ?_)
  .have q:=g _ d;simp only[au,b,er.list_fn,bw];exact⟨by omega,ar,ar,show(i+1)*32<=_ by omega,er.aO _,q,by omega,by omega,dh (by omega)⟩
  .simp
  .have e:=cP.ma s.1 h (0,[]);simp only[au.cat,au,b,er.list_fn,aE,aH];exact⟨⟨cp.same,cp.same,cp.same⟩,⟨cp.same,cp.same,cp.same⟩,⟨rfl,cp.same⟩,e,cp.same⟩
  .grind
  .omega
 obtain rfl:i=s.1.length:=by omega
 rw[cO];refine aR a [(12,ae)] rfl (by simp) (AK.leaveD rfl rfl ?_);refine bZ a rfl ar ?_;refine AK.bY 5 (λi=>i<=s.2.1.length) (λi:Nat=>[(1,.e (.one (.ptr 0 0))),(2,.e (.one (.ptr 1 0))),(3,.e (.one (.ptr 2 0))),(24,eG.sl s.2.1),(25,dI s.2.1.length),(26,dI i)])
  (λi=>[.cells 27 [.c (.sl ae 2 s.1.length (cP.fn s.1)),.c (.sl ae 2 s.2.1.length (eG.fn s.2.1)),.c (.sl ae 2 s.2.2.length (cH.fn s.2.2))],.cells 27 [g6,g6,g6],.cells 27 [.bp 3 (.sl s.1.length 2 0 s.1.length),.bp 4 (.sl i 2 0 i),g6],.buf 43 2 s.1.length (cP.fn s.1),.buf 39 2 i (eG.fn (s.2.1.take i))]) (λi=>s.2.1.length-i) 0 rfl ?_ rfl ?_ rfl (by omega) ?_
 .simp
 .simp[cp]
 intro i hi;by_cases h:i<s.2.1.length
 .have d:s.2.1.getD i (0,[])∈s.2.1:=by grind
  have b:s.2.1.getD (i:Int).toNat eG.bR=s.2.1.getD i (0,[]):=by grind
  refine aR a [(27,ab)] rfl ?_ (AK.aQ (i+1) rfl ?_ ?_ ?_ ?_)
  .have q:=f _ d;simp only[au,b,cL.list_fn,bw];exact⟨by omega,ar,ar,show(i+1)*32<=_ by omega,cL.aO _,q.1,q.2,by omega,by omega,dh (by omega)⟩
  .simp
  .have e:=eG.ma s.2.1 h (0,[]);simp only[au.cat,au,b,cL.list_fn,aE,aH];exact⟨⟨cp.same,cp.same,cp.same⟩,⟨cp.same,cp.same,cp.same⟩,⟨rfl,cp.same⟩,cp.same,e⟩
  .grind
  .omega
 obtain rfl:i=s.2.1.length:=by omega
 rw[cO];refine aR a [(27,ae)] rfl (by simp) (AK.leaveD rfl rfl ?_);refine bZ a rfl ar ?_;refine AK.cQ (DQ s.2.2 k) [] rfl ?_;refine bZ a rfl ar ?_;refine AK.lH () [3,4] rfl rfl rfl rfl rfl rfl rfl rfl ?_ rfl rfl rfl rfl (λj l=>absurd l (by simp))
 .simp
def lV(q:α->Bool)(l:List α):Int:=match l.findIdx? q with|some i=>i|none=>-1
def rM{q:α->Bool}{t:List α}{d:α}(hi:i<t.length)(h:q (t.getD i d)=ab)(a:∀j,j<i->q (t.getD j d)=ae):lV q t=i:=by
 have:t.findIdx? q=aa i:=by grind[List.findIdx?_eq_some_iff_getElem]
 rw[lV,this]
def mZ{q:α->Bool}{t:List α}{d:α}(a:∀j,j<t.length->q (t.getD j d)=ae):lV q t=-1:=by
 have:t.findIdx? q=af:=by grind[List.getElem_of_mem]
 rw[lV,this]
def Nm(l:List cC)(m:l.length<=4000000)(b:Nat)(cs:List C)(q:cC->Bool)(f:∀x,x∈l->Ev X b [BH x,.e (.one (.c (.rp cs)))] [] (dB (q x)) []):
  Ev X 65 [.e (.one (.bp 0 (.sl l.length 2 0 l.length))),.e (.one (.c (.fn (.func b) [] [.rp cs])))] [.buf 39 2 l.length (eG.fn l)] (dI (lV q l)) [.buf 39 2 l.length (eG.fn l)]:=by
 refine Ev.bQ Tryz.func65 rfl λn=>?_;refine bx rfl ar ?_;refine AK.bY 1 (λi=>i<=l.length/\∀j,j<i->q (l.getD j (0,[]))=ae) (λi:Nat=>[(0,.e (.one (.bp 0 (.sl l.length 2 0 l.length)))),(1,.e (.one (.c (.fn (.func b) [] [.rp cs])))),(7,dI l.length),(8,dI i)]) (λ_=>[.buf 39 2 l.length (eG.fn l)]) (λi=>l.length-i) 0 rfl ?_ rfl ?_ rfl ⟨by omega,by omega⟩ ?_
 .simp
 .simp
 rintro i ⟨hi,a⟩;by_cases h:i<l.length
 .have g:l.getD i (0,[])∈l:=by grind
  have k:l.getD ((0+(i:Int).toNat:Nat)) eG.bR=l.getD i (0,[]):=by simp;rfl
  refine aW [(9,ab)] rfl ?_ ?_
  .simp only[au];grind
  rw[k];refine AK.cQ (f _ g) [] rfl ?_;cases d:q (l.getD i (0,[]))with
  |true =>
   refine aW [(16,ab)] rfl ?_ (AK.eX (cd.mk [0] rfl ?_ rfl rfl rfl lU))
   .simp
   .simp[rM h d a]
  |false =>
   refine aW [(16,ae)] rfl ?_ (AK.aQ (i+1) rfl ?_ ?_ ?_ ?_)
   .simp[bw];omega
   .simp
   .simp
   .grind
   .omega
 .refine aW [(9,ae)] rfl (by simp;omega) (AK.leaveD rfl rfl ?_);refine bx rfl ar (AK.dG [0] rfl ?_ rfl rfl rfl lU);simp[mZ (λj o=>a j (by omega))]
def DS(q:α->Bool)(l:List α):(lV q l=-1/\∀x∈l,q x=ae)∨∃i:Nat,i<l.length/\lV q l=i/\(∀x∈l.take i,q x=ae)/\(∀x,l[i]?=aa x->q x=ab):=by unfold lV;grind[List.findIdx?_eq_some_iff_getElem,List.getElem_of_mem]
def wa{lo hi:Nat}{z:List C}(h:¬(lo<=j/\j<hi)):nC lo hi z es j=es j:=a9 h
theorem bt{l:List α}(h:i<l.length)(d:α):l.take (i+1)=l.take i++[l.getD i d]:=by grind[List.take_add_one]
def rN{l:List α}{q:α->Bool}(hi:i<l.length)(a:∀x∈l.take i,q x=ae)(b:∀x,l[i]?=aa x->q x=ab):(l.take (i+1)).filter (λx=>!q x)=l.take i:=by grind[List.take_add_one,List.filter_eq_self]
def _root_.Go.AM.jY.DT(c:jY α)(l:List α)(i:Nat)(x:α)(n:Nat)(b:n<=l.length):cp n (n8 i (c.enc x) (c.fn l)) (c.fn (l.set i x)):=by intro q a;simp only[n8,jY.fn,xb];grind
structure Xo(l:List cC)(q:cC->Bool)(j:Nat)(ys:List cC):Prop where
 hj:j<=l.length
 len:ys.length=l.length
 done:ys.take ((l.take j).filter λx=>!q x).length=(l.take j).filter λx=>!q x
 rest:∀i,j<=i->ys[i]?=l[i]?
def Nn(l:List cC)(B:l.length<=4000000)(b:Nat)(cs:List C)(q:cC->Bool)(u:∀x,x∈l->Ev X b [BH x,.e (.one (.c (.rp cs)))] [] (dB (q x)) []):
  dL (ι:={es:Nat->List C // ∀i,i<(l.filter λx=>!q x).length->es i=eG.fn (l.filter λx=>!q x) i}) X 29 [.e (.one (.bp 0 (.sl l.length 2 0 l.length))),.e (.one (.c (.fn (.func b) [] [.rp cs])))] [.buf 39 2 l.length (eG.fn l)]
   (λ_=>.e (.one (.bp 0 (.sl l.length 2 0 (l.filter λx=>!q x).length)))) (λes=>[.buf 39 2 l.length es.1]):=by
 refine dL.oc Tryz.func29 rfl rfl rfl λE=>?_;refine bx rfl ar ?_;refine AK.cQ (Nm l B b cs q u) [0] rfl ?_;rcases DS q l with⟨n,o⟩|⟨m,g,n,o,t⟩
 .rw[n];have p:l.filter (λx=>!q x)=l:=qS.2 λx v=>by grind
  refine aW [(12,ab)] rfl (by simp) (AK.kK ⟨eG.fn l,λi _=>by grind⟩ (AK.dG [0] rfl ?_ rfl rfl rfl lU));simp[p]
 rw[n];refine aW [(12,ae)] rfl ?_ ?_
 .simp[bw];omega
 refine AK.bY 1 (λs:Nat×List cC=>Xo l q s.1 s.2) (λs=>[(0,.e (.one (.bp 0 (.sl l.length 2 0 l.length)))),(1,.e (.one (.c (.fn (.func b) [] [.rp cs])))),(5,dI ((l.take s.1).filter λx=>!q x).length),(6,dI s.1)])
  (λs=>[.buf 39 2 l.length (eG.fn s.2)]) (λs=>l.length-s.1) (m+1,l) rfl ?_ rfl ?_ rfl ?_ ?_
 .have e:((l.take (m+1)).filter λx=>!q x).length=m:=by rw[rN g o t];grind
  simp[e]
 .simp
 .have e:=rN g o t;refine⟨by omega,rfl,?_,λ_ _=>rfl⟩;grind
 rintro⟨j,d⟩ ⟨z,g2,r,w⟩;simp only at z g2 r w;by_cases h:j<l.length
 .have v:l.getD j (0,[])∈l:=by grind
  have f:((l.take j).filter λx=>!q x).length<=j:=dO (kD _ _) (by grind);have A:d.getD (0+(j:Int).toNat) eG.bR=l.getD j (0,[]):=by grind
  refine aW [(19,ab)] rfl ?_ ?_
  .simp only[au];grind
  rw[A];refine AK.cQ (u _ v) [] rfl ?_;cases y:q (l.getD j (0,[]))with
  |false =>
   have k:(l.take (j+1)).filter (λx=>!q x)=(l.take j).filter (λx=>!q x)++[l.getD j (0,[])]:=by grind[bt]
   refine aW [(29,ab)] rfl ?_ (AK.aQ (j+1,d.set ((l.take j).filter λx=>!q x).length (l.getD j (0,[]))) rfl ?_ ?_ ?_ ?_)
   .simp only[au,bw];grind
   .simp[k]
   .have e:=eG.DT d ((l.take j).filter λx=>!q x).length (l.getD j (0,[])) l.length (by omega);have D:0+((((l.take j).filter λx=>!q x).length:Nat):Int).toNat=((l.take j).filter λx=>!q x).length:=by omega
    simp only[au.cat,au,D,aE,aH];exact e
   .refine⟨by grind,by grind,?_,λi hi=>?_⟩
    .simp only;rw[k,cv,show ∀a,[a].length=1 fromλ_=>rfl,jO,List.take_set,List.set_eq_of_length_le (by grind),r,fQ (by omega)];rfl
    grind
   grind
  |true =>
   have k:(l.take (j+1)).filter (λx=>!q x)=(l.take j).filter (λx=>!q x):=by grind[bt]
   refine aW [(29,ae)] rfl ?_ (AK.aQ (j+1,d) rfl ?_ ?_ ?_ ?_)
   .simp[bw];omega
   .simp[k]
   .simp
   .refine⟨by grind,g2,by grind,λi hi=>w i (by grind)⟩
   grind
 .obtain rfl:j=l.length:=by omega
  rw[cO]at r⊢;have f:(l.filter λx=>!q x).length<=l.length:=kD _ _;refine aW [(19,ae)] rfl (by simp) (AK.leaveD rfl rfl ?_);refine bx rfl ?_ ?_
  .simp only[au];grind
  refine AK.law (bD.C0 tok rfl rfl rfl rfl rfl rfl ?_) rfl rfl ?_
  .simp only[cq,bL];omega
  refine bx rfl ?_ (AK.kK ⟨nC (0+cq 0 (aa ((l.filter λx=>!q x).length:Int))) (0+cq 0 (aa ((l.filter λx=>!q x).length:Int))+(cq l.length af-cq 0 (aa ((l.filter λx=>!q x).length:Int)))) i39.zero (eG.fn d),λi hi=>?_⟩ (AK.dG [0] rfl ?_ rfl rfl rfl lU))
  .simp only[au];grind
  .have e:d[i]?=(l.filter λx=>!q x)[i]?:=by grind
   refine(wa (by simp only[cq,bL];omega)).trans ?_;simp only[jY.fn,xb,aj,e]
  .simp[cq];rfl
abbrev Xp:=Int×Int×Int×Bs
abbrev Sd(cs:List C):D:=.e (.one (.c (.rp cs)))
abbrev QS(ps:List ba):C:=.sl ae 2 ps.length (cP.fn ps)
abbrev No(a:List cC):C:=.sl ae 2 a.length (eG.fn a)
abbrev Np(a:List (Int×Int)):C:=.sl ae 2 a.length (cH.fn a)
def Mm(s:bk)(l:Xp)(n:Nat)(a:l.2.1=n)(h:n<=s.2.2.length):au (fE s.2.2.length (aa l.2.1) af):=by show 0<=l.2.1/\l.2.1<=(s.2.2.length:Int);omega
def QT(n lo hi:Int):Ev X 56 [dI n,dI lo,dI hi] [] (dB (decide (lo<=n/\n<=hi))) []:=by
 refine Ev.bQ Tryz.func56 rfl λc=>?_;by_cases b:lo<=n
 .by_cases a:n<=hi
  .refine aW [(10,ab),(14,ab)] rfl (by simp;omega) (AK.bo rfl ?_);simp[b,a]
  .refine aW [(10,ab),(14,ae)] rfl (by simp;omega) (AK.bo rfl ?_);simp;omega
 .refine aW [(10,ae),(14,ae)] rfl (by simp;omega) (AK.bo rfl ?_);simp;omega
abbrev DU:dy:=Fl aI aI aI (λn lo hi=>dB (decide (lo<=n/\n<=hi))) λ_ _ _=>[]
def GJ:dM X 56 DU:=.LN λn lo hi _=>QT n lo hi
def GK(n:Nat)(f:n<=4000000):Ev X 199 [dI n] [] (dI (cG n)) []:=by
 refine Ev.bQ Tryz.func199 rfl λe=>?_;by_cases c:n<1
 .refine aW [(6,ab),(9,ab)] rfl (by simp;omega) (AK.bo rfl ?_);have:cG n=0:=by simp[cG,c]
  simp[this]
 by_cases d:8<n
 .refine aW [(6,ae),(9,ab)] rfl (by simp;omega) (AK.bo rfl ?_);have:cG n=0:=by simp[cG,d]
  simp[this]
 by_cases a:n<=2
 .refine aW [(6,ae),(9,ae),(10,ab)] rfl (by simp;omega) (AK.bo rfl ?_);have:cG n=2:=by simp only[cG,a9 (show¬(n<1∨8<n) by omega),bn a]
  simp[this]
 by_cases b:n<=4
 .refine aW [(6,ae),(9,ae),(10,ae),(13,ab)] rfl (by simp;omega) (AK.bo rfl ?_);have:cG n=4:=by simp only[cG,a9 (show¬(n<1∨8<n) by omega),a9 a,bn b]
  simp[this]
 .refine aW [(6,ae),(9,ae),(10,ae),(13,ae)] rfl (by simp;omega) (AK.bo rfl ?_);have:cG n=8:=by simp only[cG,a9 (show¬(n<1∨8<n) by omega),a9 a,a9 b]
  simp[this]
def Nq(l:List Bs)(p:Bs)(c:l.length<=4000000):Ev X 149 [cS.sl l,dS p] [] (dB (l.contains p)) []:=by
 refine Ev.bQ Tryz.func149 rfl λe=>?_;refine bx rfl ar ?_;refine AK.bY 0 (λi=>i<=l.length/\∀j,j<i->l.getD j []≠p) (λi:Nat=>[(0,cS.sl l),(1,dS p),(5,dI i)]) (λ_=>[]) (λi=>l.length-i) 0 rfl ?_ rfl ?_ rfl ⟨by omega,by omega⟩ ?_
 .simp
 .simp
 rintro i ⟨hi,a⟩;by_cases h:i<l.length
 .have b:l.getD (i:Int).toNat cS.bR=l.getD i []:=by grind
  by_cases d:l.getD i []=p
  .refine aW [(9,ab),(17,ab)] rfl ?_ (AK.eX (cd.zero rfl ?_))
   .simp only[au,b];grind
   .have:p∈l:=by grind
    simp[this]
  .refine aW [(9,ab),(17,ae)] rfl ?_ (AK.aQ (i+1) rfl ?_ ?_ ?_ ?_)
   .simp only[au,b,bw];grind
   .simp
   .simp
   .grind
   .omega
 .refine aW [(9,ae)] rfl (by simp;omega) (AK.leaveD rfl rfl ?_);refine bx rfl ar (AK.bo rfl ?_);have:¬p∈l:=λf=>by grind[List.getElem_of_mem]
  simp[this]
def JK(p:Bs)(b:bG p=ab):Ev X 157 [dS p] [] (dI (codeOf p)) []:=by
 refine Ev.bQ Tryz.func157 rfl λf=>?_;have a:=b;simp only[bG,bS,bl]at a;refine bx rfl ar ?_;refine AK.bY 0 (λi=>i<=p.length) (λi:Nat=>[(0,dS p),(3,dI (codeOf (p.take i))),(4,dI i)]) (λ_=>[]) (λi=>p.length-i) 0 rfl (by simp[codeOf]) rfl (by simp) rfl (by omega) ?_;intro i hi;by_cases h:i<p.length
 .have j:=jC b hi;have k:=jC b (i:=i+1) (by omega);have e:=tw h;have g:=kq a.2 (p.getD i 0) (vS h);have d:97<=cw p i/\cw p i<=122:=by unfold cw;omega
  refine aW [(8,ab)] rfl ?_ (AK.aQ (i+1) rfl ?_ ?_ ?_ ?_)
  .simp only[au,cz,bw];grind
  .have c:(cw p i-97) % 256=cw p i-97:=Int.emod_eq_of_lt (by omega) (by omega);rw[c]at e;simp[-aj,cz,e]
  .simp
  .grind
  grind
 .obtain rfl:i=p.length:=by omega
  refine aW [(8,ae)] rfl (by simp) (AK.leaveD rfl rfl ?_);exact bx rfl ar (AK.bo rfl)
def QU:dM X 157 (kB aS (λp=>dI (codeOf p)) λp=>[bG p=ab]):=.ox λp h=>JK p h
def JL(k:Int)(p:Bs)(c:cB k=ab)(d:bG p=ab):Ev X 116 [dI k,dS p] [] (dI (gp k p)) []:=by
 refine Ev.bQ Tryz.func116 rfl λh=>?_;have g:bA X [(157,kB aS (λp=>dI (codeOf p)) λp=>[bG p=ab])]:=.cons QU .nil;have a:=c;simp only[cB,bS,bl]at a;have e:=ya d;refine bZ g rfl ?_ (AK.bo rfl ?_)
 .have b:0<=codeOf p*(2*k+1):=Int.mul_nonneg e.1 (by omega);have f:codeOf p*(2*k+1)<=282429536481*199:=Int.mul_le_mul (by omega) (by omega) (by omega) (by omega);generalize codeOf p*(2*k+1)=m at b f;simp only[au,bw];grind
 .show (_:Int)=_;rfl
def wc:dM X 116 (oa aI aS (λk p=>dI (gp k p)) λk p=>[cB k=ab,bG p=ab]):=.qC λk p h=>JL k p h.1 h.2
def JM(l:List dw)(n:Int)(c:l.length<=4000000):Ev X 148 [ou.sl l,dI n] [] (dI (tz l n)) []:=by
 refine Ev.bQ Tryz.func148 rfl λe=>?_;refine bx rfl ar ?_;refine AK.bY 0 (λi=>i<=l.length/\∀j,j<i->(l.getD j (0,0)).1≠n) (λi:Nat=>[(0,ou.sl l),(1,dI n),(5,dI i)]) (λ_=>[]) (λi=>l.length-i) 0 rfl ?_ rfl ?_ rfl ⟨by omega,by omega⟩ ?_
 .simp
 .simp
 rintro i ⟨hi,b⟩;by_cases h:i<l.length
 .have a:l.getD (i:Int).toNat ou.bR=l.getD i (0,0):=by grind
  by_cases d:(l.getD i (0,0)).1=n
  .refine aW [(9,ab),(18,ab)] rfl ?_ (AK.eX (cd.zero rfl ?_))
   .simp only[au,a];grind
   .have:tz l n=(l.getD i (0,0)).2:=by
     have:l.find? (λs=>s.1==n)=aa (l.getD i (0,0)):=by grind[List.find?_eq_some_iff_getElem]
     rw[tz,this]
    simp only[au,a];grind
  .refine aW [(9,ab),(18,ae)] rfl ?_ (AK.aQ (i+1) rfl ?_ ?_ ?_ ?_)
   .simp only[au,a,bw];grind
   .simp
   .simp
   .grind
   .omega
 .refine aW [(9,ae)] rfl (by simp;omega) (AK.leaveD rfl rfl ?_);refine bx rfl ar (AK.bo rfl ?_);have:tz l n=0:=by
   have:l.find? (λs=>s.1==n)=af:=by grind[List.getElem_of_mem]
   rw[tz,this]
  simp[this]
theorem we(b:1<=n)(a:n<=8):n<=cG n/\cG n<=8:=by unfold cG;grind
abbrev Fv:dy:=kB aI (λn=>dI (cG n.toNat)) λn=>[0<=n/\n<=4000000]
def Nr:dM X 199 Fv:=.ox λn h=>by
 obtain⟨m,rfl⟩:∃m:Nat,n=m:=⟨n.toNat,by have:=h.1;omega⟩
 exact GK m (by have:=h.2;omega)
def Ns(p:Bs)(c:bG p=ab):Ev X 153 [dS p] [] (dS (gq p)) []:=by
 refine Ev.bQ Tryz.func153 rfl λd=>?_;have b:bA X [(199,Fv)]:=.cons Nr .nil;have a:=c;simp only[bG,bS,bl]at a;have f:=we a.1.1 a.1.2;refine bZ b rfl ?_ ?_
 .simp only[au];omega
 refine AK.bY 0 (λj=>p.length+j<=cG p.length) (λj:Nat=>[(0,dS (p++List.replicate j 46)),(3,dI (cG p.length))]) (λ_=>[]) (λj=>cG p.length-j) 0 rfl (by simp) rfl (by simp) rfl (by omega) ?_;intro j g;by_cases h:p.length+j<cG p.length
 .refine aR b [(10,ab)] rfl ?_ (AK.aQ (j+1) rfl ?_ ?_ ?_ ?_)
  .simp;omega
  .simp[List.replicate_succ']
  .simp
  .grind
  grind
 .have e:cG p.length-p.length=j:=by omega
  refine aR b [(10,ae)] rfl (by simp;omega) (AK.leaveD rfl rfl ?_);refine bZ b rfl ar (AK.bo rfl ?_);simp[gq,c,e]
def JN(s:dw):Ev X 150 [.e (.agg [.c (.int .i64 s.1),.c (.int .i64 s.2)])] [] (dB (kL s)) []:=by
 refine Ev.bQ Tryz.func150 rfl λf=>?_;have d:bA X [(56,DU)]:=.cons GJ .nil;by_cases a:0<=s.1/\s.1<=999999999988
 .by_cases b:1<=s.2/\s.2<=99
  .refine aR d [(6,ab),(10,ab)] rfl (by simp[a,b]) (AK.bo rfl ?_);have:kL s=ab:=by simp[kL,a,b];omega
   simp[this]
  .refine aR d [(6,ab),(10,ae)] rfl (by simp[a,b]<;>omega) (AK.bo rfl ?_);have:kL s=ae:=by simp[kL,a];omega
   simp[this]
 .refine aR d [(6,ae),(10,ae)] rfl (by simp;omega) (AK.bo rfl ?_);have:kL s=ae:=by simp[kL];omega
  simp[this]
abbrev JO:dy:=kB Vt (λs=>dB (kL s)) λ_=>[]
def QV:dM X 150 JO:=.ox λs _=>JN s
def wz{q:α->Bool}{l:List α}(h:l.any q=ab):0<=lV q l:=by unfold lV;grind
theorem wA{q:α->Bool}{l:List α}(h:l.any q=ae):lV q l=-1:=by unfold lV;grind
def J9(l:List (Int×Int))(b:Nat)(q:Int×Int->Bool)(k:∀x,x∈l->Ev X b [.e (.agg [.c (.int .i64 x.1),.c (.int .i64 x.2)])] [] (dB (q x)) []):
  Ev X 102 [cH.sl l,.e (.one (.c (.fn (.func b) [] [])))] [] (dI (lV q l)) []:=by
 refine Ev.bQ Tryz.func102 rfl λg=>?_;have d:=g.sl 0 rfl;refine bx rfl ar ?_;refine AK.jA (λi=>i<=l.length/\∀j,j<i->q (l.getD j (0,0))=ae) (λi:Nat=>[(0,cH.sl l),(1,.e (.one (.c (.fn (.func b) [] [])))),(7,dI l.length),(8,dI i)]) (λ_=>[]) (λi=>l.length-i) 0 rfl ?_ rfl ar ⟨by omega,by omega⟩ ?_
 .simp
 rintro i ⟨hi,a⟩;by_cases h:i<l.length
 .have m:l.getD i (0,0)∈l:=by grind
  have n:l.getD (i:Int).toNat cH.bR=l.getD i (0,0):=by grind
  refine aW [(9,ab)] rfl ?_ ?_
  .simp only[au];grind
  rw[n];refine AK.cQ (k _ m) [] rfl ?_;cases f:q (l.getD i (0,0))with
  |true =>
   refine aW [(16,ab)] rfl ?_ (AK.gU (cd.zero rfl ?_))
   .simp
   .simp[rM h f a]
  |false =>
   refine aW [(16,ae)] rfl ?_ (AK.fK (i+1) rfl ?_ rfl ar ?_ ?_)
   .simp[bw];omega
   .simp
   .grind
   .omega
 .refine aW [(9,ae)] rfl (by simp;omega) (AK.leave rfl rfl ?_);refine bx rfl ar (AK.bo rfl ?_);simp[mZ (λj o=>a j (by omega))]
def Ka(l:List (Int×Int))(a:Nat)(q:Int×Int->Bool)(b:∀x,x∈l->Ev X a [.e (.agg [.c (.int .i64 x.1),.c (.int .i64 x.2)])] [] (dB (q x)) []):
  Ev X 81 [cH.sl l,.e (.one (.c (.fn (.func a) [] [])))] [] (dB (l.any q)) []:=by
 refine Ev.bQ Tryz.func81 rfl λd=>?_;refine bx rfl ar ?_;refine AK.cQ (J9 l a q b) [] rfl ?_;cases h:l.any q with
 |true =>
  exact aW [(8,ab)] rfl (dh (wz h)) (AK.bo rfl)
 |false =>
  exact aW [(8,ae)] rfl (gL (by grind[wA])) (AK.bo rfl)
def Kb(l:List (ba))(b:Nat)(cs:List C)(q:ba->Bool)(k:∀x,x∈l->Ev X b [xa x,.e (.one (.c (.rp cs)))] [] (dB (q x)) []):
  Ev X 74 [cP.sl l,.e (.one (.c (.fn (.func b) [] [.rp cs])))] [] (dI (lV q l)) []:=by
 refine Ev.bQ Tryz.func74 rfl λg=>?_;have d:=g.sl 0 rfl;refine bx rfl ar ?_;refine AK.jA (λi=>i<=l.length/\∀j,j<i->q (l.getD j (0,[]))=ae) (λi:Nat=>[(0,cP.sl l),(1,.e (.one (.c (.fn (.func b) [] [.rp cs])))),(7,dI l.length),(8,dI i)]) (λ_=>[]) (λi=>l.length-i) 0 rfl ?_ rfl ar ⟨by omega,by omega⟩ ?_
 .simp
 rintro i ⟨hi,a⟩;by_cases h:i<l.length
 .have m:l.getD i (0,[])∈l:=by grind
  have n:l.getD (i:Int).toNat cP.bR=l.getD i (0,[]):=by grind
  refine aW [(9,ab)] rfl ?_ ?_
  .simp only[au];grind
  rw[n];refine AK.cQ (k _ m) [] rfl ?_;cases f:q (l.getD i (0,[]))with
  |true =>
   refine aW [(16,ab)] rfl ?_ (AK.gU (cd.zero rfl ?_))
   .simp
   .simp[rM h f a]
  |false =>
   refine aW [(16,ae)] rfl ?_ (AK.fK (i+1) rfl ?_ rfl ar ?_ ?_)
   .simp[bw];omega
   .simp
   .grind
   .omega
 .refine aW [(9,ae)] rfl (by simp;omega) (AK.leave rfl rfl ?_);refine bx rfl ar (AK.bo rfl ?_);simp[mZ (λj o=>a j (by omega))]
def Kc(l:List (ba))(a:Nat)(cs:List C)(q:ba->Bool)(b:∀x,x∈l->Ev X a [xa x,.e (.one (.c (.rp cs)))] [] (dB (q x)) []):
  Ev X 41 [cP.sl l,.e (.one (.c (.fn (.func a) [] [.rp cs])))] [] (dB (l.any q)) []:=by
 refine Ev.bQ Tryz.func41 rfl λd=>?_;refine bx rfl ar ?_;refine AK.cQ (Kb l a cs q b) [] rfl ?_;cases h:l.any q with
 |true =>
  exact aW [(8,ab)] rfl (dh (wz h)) (AK.bo rfl)
 |false =>
  exact aW [(8,ae)] rfl (gL (by grind[wA])) (AK.bo rfl)
def Kd(l:List (Int))(b:Nat)(cs:List C)(H:ai->(Nat->Option Obj)->Prop)(q:Int->Bool)(k:∀x,x∈l->Ev X b [dI x,.e (.one (.c (.rp cs)))] [.cf H] (dB (q x)) [.cf H]):
  Ev X 73 [cI.sl l,.e (.one (.c (.fn (.func b) [] [.rp cs])))] [.cf H] (dI (lV q l)) [.cf H]:=by
 refine Ev.bQ Tryz.func73 rfl λg=>?_;have d:=g.sl 0 rfl;refine bx rfl ar ?_;refine AK.bY 1 (λi=>i<=l.length/\∀j,j<i->q (l.getD j 0)=ae) (λi:Nat=>[(0,cI.sl l),(1,.e (.one (.c (.fn (.func b) [] [.rp cs])))),(7,dI l.length),(8,dI i)]) (λ_=>[.cf H]) (λi=>l.length-i) 0 rfl ?_ rfl ?_ rfl ⟨by omega,by omega⟩ ?_
 .simp
 .simp
 rintro i ⟨hi,a⟩;by_cases h:i<l.length
 .have m:l.getD i 0∈l:=by grind
  have n:l.getD (i:Int).toNat cI.bR=l.getD i 0:=by grind
  refine aW [(9,ab)] rfl ?_ ?_
  .simp only[au];grind
  rw[n];refine AK.cQ (k _ m) [0] rfl ?_;cases f:q (l.getD i 0)with
  |true =>
   refine aW [(16,ab)] rfl ?_ (AK.eX (cd.mk [0] rfl ?_ rfl rfl rfl lU))
   .simp
   .simp[rM h f a]
  |false =>
   refine aW [(16,ae)] rfl ?_ (AK.aQ (i+1) rfl ?_ ?_ ?_ ?_)
   .simp[bw];omega
   .simp
   .simp
   .grind
   .omega
 .refine aW [(9,ae)] rfl (by simp;omega) (AK.leaveD rfl rfl ?_);refine bx rfl ar (AK.dG [0] rfl ?_ rfl rfl rfl lU);simp[mZ (λj o=>a j (by omega))]
def Ke(l:List (Int))(a:Nat)(cs:List C)(H:ai->(Nat->Option Obj)->Prop)(q:Int->Bool)(b:∀x,x∈l->Ev X a [dI x,.e (.one (.c (.rp cs)))] [.cf H] (dB (q x)) [.cf H]):
  Ev X 39 [cI.sl l,.e (.one (.c (.fn (.func a) [] [.rp cs])))] [.cf H] (dB (l.any q)) [.cf H]:=by
 refine Ev.bQ Tryz.func39 rfl λd=>?_;refine bx rfl ar ?_;refine AK.cQ (Kd l a cs H q b) [0] rfl ?_;cases h:l.any q with
 |true =>
  refine aW [(8,ab)] rfl (dh (wz h)) (AK.dG [0] rfl ?_ rfl rfl rfl lU);simp
 |false =>
  refine aW [(8,ae)] rfl (gL (by grind[wA])) (AK.dG [0] rfl ?_ rfl rfl rfl lU);simp
def Ui(h:o.op=.call {callee:=.builtin .append,args:=#[x,y],argTypes:=#[41,41]}):lr ag o x y 68 i68 :=
 ⟨⟨41,41,i41,i41,h,(tok _ _ rfl),rfl,(tok _ _ rfl),rfl⟩,(tok _ _ rfl),by decide,by decide⟩
def Fy(l:List cn)(n:Nat):∀i,i<n->∀c∈er.fn l i,tO c=ab:=by
 intro i _ c a;have:er.fn l i=[.int .i64 (l.getD i er.bR).1,.str (l.getD i er.bR).2]:=rfl;rw[this]at a;rcases dK.1 a with rfl|a
 .rfl
 .rcases dK.1 a with rfl|a
  .rfl
  grind
abbrev Own(l:List cn):Type:={q:tP×List ai // ig 2 l.length (er.fn l) q.2}
abbrev GS(l:List cn)(q:Own l):bd:=.cf (iL 68 2 q.1.1 l.length q.1.2)
abbrev Ac(l:List cn)(q:Own l):C:=.val (se q.1.1 l.length)
abbrev S3:Type:=Nat×tP×Nat×List ai
abbrev u3(x:S3):ai:=se x.2.1 x.2.2.1
end
abbrev Al(l:List bz):Prop:=l.Pairwise λa b=>bc a.1 b.1=ab
def wJ{t:List bz}(h:dq t=ab):Al t:=by simp only[dq,bS]at h;have a:=dg.1 h.1;rw[Al,mm];intro i j hi hj XA;rw[fileAt hi,fileAt hj];refine Uu (t:=t) (i:=j) (λk c b=>?_) i XA;have:=a k (by omega);simp only[gi,bS,my,hO]at this;grind
theorem pd{t:List bz}:dq t=ab↔(∀f∈t,dE f.1=ab/\ef f.2=ab)/\Al t/\t.Pairwise (λa b=>clash a.1 b.1=ae)/\t.length<=6:=by
 constructor
 .intro h;have l:=wJ h;simp only[dq,bS,bl]at h;have c:=dg.1 h.1;refine⟨λf e=>?_,l,?_,h.2⟩
  .obtain⟨i,hi,rfl⟩:=dN e;have:=c i hi;simp only[gi,bS]at this;grind[fileAt]
  .rw[mm];intro i j hi hj XA;have:=c j hj;simp only[gi,bS]at this;grind[fileAt]
 .rintro⟨d,n,m,k⟩;simp only[dq,bS,bl];refine⟨dg.2 λi hi=>?_,k⟩;have g:=d _ (qX hi);rw[fileAt hi]at g;simp only[gi,bS,my,hO];grind[List.pairwise_iff_getElem,fileAt]
def wK{t:List bz}(q:bz->Bool)(h:dq t=ab):dq (t.filter q)=ab:=by grind[pd]
theorem Kx{t:List bz}(p:Bs)(h:dq t=ab):dq (lO t p)=ab:=wK _ h
def Ec{t:List bz}{p x:Bs}(h:(ee t p x).2=ab):dq (ee t p x).1=ab:=by unfold ee at h⊢;grind
end R1
def dL.le{X:Cx P}{f:aJ}{args:List D}{res':ι->D}(h:dL X f args σ res σ1){ps:ι->List Prop}(a:∀i,CH (res i) (res' i)=aa (ps i))(b:∀i,au (ps i)):dL X f args σ res' σ1 :=
 ⟨h.1,λs vs hr hh S cs hS=>h.2 s vs hr hh S cs λi fr v s' hl lR jf st=>hS i fr v s' hl (qu (a i) (b i) lR) jf st⟩
def dL.one{X:Cx P}{f:aJ}{args:List D}{res:D}{σ1:List bd}(h:dL (ι:=ι) X f args σ (λ_=>res) (λ_=>σ1)):Ev X f args σ res σ1 :=
 ⟨h.1,λs vs hr hh S cs hS=>h.2 s vs hr hh S cs λ_ fr v s' hl lR jf st=>hS fr v s' hl lR jf st⟩
namespace R1
variable {X:Cx ag}
structure iM(s:bk):Prop where
 p:s.1.length<=4000000
 p2:∀p∈s.1,p.2.length<=4000000
 sn:s.2.1.length<=4000000
 s2:mE s
 h:s.2.2.length<=4000000
end R1
namespace R1
section
open Go.Sort (pdq bitsLen ltInt Below)
variable {X:Cx ag}
def ky(l:List Int):List Int:=l.mergeSort λx y=>decide (x<=y)
def fh(l:List Int):(ky l).length=l.length:=List.length_mergeSort _
def K2(l:List Int):pdq ltInt l.toArray 0 l.length (bitsLen l.length) ab ab=(ky l).toArray:=by have h:=Go.Sort.sortInt l;unfold Go.Sort.sort at h;rw[List.size_toArray]at h;exact Array.ext' (by rw[h];rfl)
theorem UP(l:List Int):eI l.toArray=cI.fn l:=by funext j;simp only[eI,jY.fn,xb,cI,aj];simp
abbrev AH(n:Nat)(l:List Int):bd:=.buf 3 1 n (cI.fn l)
def wG(l:List Int)(a:l.length<=4000000):Ev X 71 [j6 l.length] [AH l.length l] (.fw []) [AH l.length (ky l)]:=by
 refine Ev.bQ Tryz.func71 rfl λb=>?_;refine c9 rfl (by simp only[au,bw];and_intros<;>omega) ?_;refine AK.cQ (K3 l.length a) [] rfl ?_;refine c9 rfl ar ?_;have c:=j1 (x:=l.length) (k:=22) (by grind);have key:Ev X 99 [j6 l.length,dI 0,dI l.length,dI (bitsLen l.length)] [AH l.length l] (.fw []) [AH l.length (ky l)]:=by have:=RL (X:=X) l.length a l.length l.toArray 0 l.length (bitsLen l.length) (by omega) (by simp) (by omega) (aZ _) (by omega) (.inl rfl) (x:=0) rfl rfl rfl (K2 l).symm;grind[UP]
 refine AK.cQ key [0] rfl ?_;refine c9 rfl ar ?_;exact cd.sI [0] rfl ar rfl rfl rfl g7
def jK(l:List Int):Nat->List Int
 |0=>[]
 |j+1=>if j≠0/\l.getD j 0=l.getD (j-1) 0 then jK l j else jK l j++[l.getD j 0]
def dY(l:List Int):List Int:=jK l l.length
def rX(l:List Int):∀j,(jK l j).length<=j
 |0=>aZ _
 |j+1=>by have:=rX l j;simp only[jK];grind
def m9{l:List Int}:∀{k:Nat},k<=l.length->(∀i,1<=i->i<k->l.getD i 0≠l.getD (i-1) 0)->jK l k=l.take k
 |0,_,_=>by simp[jK]
 |k+1,b,h=>by rw[jK,a9,m9 (by omega) λi a c=>h i a (by omega),bt (by omega) 0];grind
structure CoP(l:List Int)(k0:Nat)(k2:Nat)(ys:List Int):Prop where
 h1:1<=k2
 hj:k0+k2<=l.length
 len:ys.length=l.length
 lt:(jK l (k0+k2)).length<k0+k2
 done:ys.take (jK l (k0+k2)).length=jK l (k0+k2)
 rest:∀i,k0+k2<=i+1->ys.getD i 0=l.getD i 0
abbrev K4(a:List Int):Type:={es:Nat->List C // ∀i,i<a.length->es i=cI.fn a i}
def wH(l:List Int)(L:l.length<=4000000):dL (ι:=K4 (dY l)) X 72 [j6 l.length] [AH l.length l] (λ_=>.e (.one (.bp 0 (.sl l.length 1 0 (dY l).length)))) (λes=>[.buf 3 1 l.length es.1]):=by
 refine dL.oc Tryz.func72 rfl rfl rfl λJ=>?_;by_cases E:l.length<2
 .have f:dY l=l:=by unfold dY;rw[m9 (aZ _) λi _ _=>by omega,cO]
  refine bF [(8,ab)] rfl (by simp only[au,bl];omega) (AK.kK ⟨cI.fn l,λi _=>by rw[f]⟩ (AK.dG [0] rfl ?_ rfl rfl rfl g7));simp[f]
 refine bF [(8,ae)] rfl (by simp only[au,b7];omega) ?_;refine AK.kp (S2:=Unit) 0 rfl rfl (λ_=>dY l=l) (λ_=>[(0,j6 l.length)]) (λ_=>[AH l.length l]) 1 (λk:Nat=>1<=k/\k<=l.length/\∀i,1<=i->i<k->l.getD i 0≠l.getD (i-1) 0) (λk=>[(0,j6 l.length),(3,dI k)]) (λ_=>[AH l.length l]) (λk=>l.length-k) 1 rfl ?_ rfl ?_ rfl ⟨aZ _,by omega,λi I E=>by omega⟩ ?_ ?_
 .simp
 .simp
 .rintro out k ⟨z,K,d⟩;by_cases F:k<l.length
  .have w:((k:Int)-1).toNat=k-1:=by omega
   have v:∀j,l.getD j cI.bR=l.getD j 0:=λ_=>rfl;by_cases h:l.getD k 0=l.getD (k-1) 0
   .refine bF [(13,ab),(25,ab)] rfl ?_ ?_
    .simp only[au,br,bL,w,v,h,bw,bl,jQ,aH,aE];and_intros<;>omega
    have B:=m9 (l:=l) (by omega) d;have H:jK l (k+1)=l.take k:=by rw[jK,bn ⟨by omega,h⟩,B]
    refine AK.kp (S2:=List Int) 2 rfl rfl (λc=>c.length=l.length/\c.take (dY l).length=dY l) (λ_=>[(0,j6 l.length),(3,dI (dY l).length)]) (λc=>[AH l.length c]) 1 (λs:Nat×List Int=>CoP l k s.1 s.2) (λs=>[(0,j6 l.length),(3,dI (jK l (k+s.1)).length),(4,.e (.one (.bp 0 (.sl l.length 1 k (l.length-k))))),(5,dI s.1)]) (λs=>[AH l.length s.2]) (λs=>l.length-s.1) (1,l) rfl ?_ rfl ?_ rfl ?_ ?_ ?_
    .simp only[au.cat,au,H,List.length_take,cq,br,bL,aH,aE];exact⟨by omega,rfl,rfl⟩
    .simp
    .exact⟨aZ _,by omega,rfl,by grind,by grind,λ_ _=>rfl⟩
    .rintro g ⟨b,c⟩ ⟨c1,c2,c3,c4,m,n⟩;simp only at c1 c2 c3 c4 m n;by_cases G:k+b<l.length
     .have t:((b:Int)-1).toNat=b-1:=by omega
      have r:∀j,c.getD j cI.bR=c.getD j 0:=λ_=>rfl;have q:c.getD (k+b) 0=l.getD (k+b) 0:=n _ (by omega);have u:c.getD (k+(b-1)) 0=l.getD (k+(b-1)) 0:=n _ (by omega);by_cases o:l.getD (k+b) 0=l.getD (k+(b-1)) 0
      .have p:jK l (k+(b+1))=jK l (k+b):=by rw[show k+(b+1)=k+b+1 by omega,jK,bn ⟨by omega,by rw[o,show k+b-1=k+(b-1) by omega]⟩]
       refine bF [(32,ab),(44,ae)] rfl ?_ (AK.aQ (b+1,c) rfl ?_ ?_ ?_ ?_)
       .simp only[au,br,bL,t,r,q,u,o,bw,bl,mq,kG,jQ,aH,aE];and_intros<;>first|trivial|omega
       .simp only[au.cat,au,p,aH,aE];omega
       .simp
       .exact⟨by grind,by grind,c3,by grind,by grind,λi hi=>n i (by grind)⟩
       .simp only;omega
      .have p:jK l (k+(b+1))=jK l (k+b)++[l.getD (k+b) 0]:=by rw[show k+(b+1)=k+b+1 by omega,jK,a9];rintro⟨_,h⟩;exact o (by rw[h,show k+b-1=k+(b-1) by omega])
       refine bF [(32,ab),(44,ab)] rfl ?_ (AK.aQ (b+1,c.set (jK l (k+b)).length (l.getD (k+b) 0)) rfl ?_ ?_ ?_ ?_)
       .simp only[au,br,bL,t,r,q,u,bw,bl,iU,fy,pw,cR,aH,aE];and_intros<;>first|exact o|omega
       .simp only[au.cat,au,p,cv,gb,jk,aH,aE];and_intros<;>omega
       .have e:=cI.DT c (jK l (k+b)).length (l.getD (k+b) 0) l.length (by omega);simp only[au.cat,au,br,bL,r,q,aE,aH];exact e
       .refine⟨by grind,by grind,by grind,by grind,?_,λi hi=>?_⟩
        .simp only;rw[p,cv,show ∀a:Int,[a].length=1 fromλ_=>rfl,jO,List.take_set,List.set_eq_of_length_le (by grind),m,fQ (by omega)];rfl
        .simp only at hi⊢;rw[aj,kF (by omega),<-aj];grind
       .simp only;omega
     .have C:k+b=l.length:=by omega
      have x:jK l (k+b)=dY l:=by rw[C];rfl
      refine bF [(32,ae)] rfl ?_ (AK.leaveD rfl rfl ?_)
      .simp only[au,b7];omega
      rw[x]at m;exact g c ⟨c3,m⟩ rfl (by simp[x]) rfl (by simp)
    rintro c ⟨D,y⟩;have A:(dY l).length<=l.length:=rX l _;refine c9 rfl ?_ ?_
    .simp only[au];grind
    refine AK.law (bD.C0 tok rfl rfl rfl rfl rfl rfl ?_) rfl rfl ?_
    .simp only[cq,bL];omega
    refine bx rfl ?_ (AK.eX ⟨⟨nC (0+cq 0 (aa ((dY l).length:Int))) (0+cq 0 (aa ((dY l).length:Int))+(cq l.length af-cq 0 (aa ((dY l).length:Int)))) i3.zero (cI.fn c),λi hi=>?_⟩,cd.mk [0] rfl ?_ rfl rfl rfl g7⟩)
    .simp only[au];grind
    .have e:c[i]?=(dY l)[i]?:=by grind
     refine(wa (by simp only[cq,bL];omega)).trans ?_;simp only[jY.fn,xb,aj,e]
    .simp[cq];rfl
   .refine bF [(13,ab),(25,ae)] rfl ?_ (AK.aQ (k+1) rfl ?_ ?_ ?_ ?_)
    .simp only[au,br,bL,w,v,bw,bl,fy,cR,aH,aE];and_intros<;>first|exact h|omega
    .simp
    .simp
    .grind
    .omega
  .obtain rfl:k=l.length:=by omega
   refine bF [(13,ae)] rfl (by simp) (AK.leaveD rfl rfl ?_);exact out () (by unfold dY;rw[m9 (aZ _) d,cO]) rfl (by simp) rfl (by simp)
 rintro⟨⟩ f;refine c9 rfl ar (AK.kK ⟨cI.fn l,λi _=>by rw[f]⟩ (AK.dG [0] rfl ?_ rfl rfl rfl g7));simp[f]
end
section
variable {X:Cx ag}
def bT(l:List gz):List Int:=l.flatMap (·.2)
def et(x:cC):List Int:=dY (ky (bT x.2))
def rW{l:List gz}(h:i<l.length):bT (l.take (i+1))=bT (l.take i)++(l.getD i ([],[])).2:=by rw[bt h ([],[])];simp[bT]
def _root_.Go.AM.jY.Ku(c:jY α)(a b:List α)(n:Nat)(d:n=(a++b).length):cp n (cy a.length (c.fn a) (c.fn b)) (c.fn (a++b)):=by intro i hi;simp only[cy,jY.fn,xb,aj];grind
def xB(x:cC)(n:x.2.length<=4000000)(k:(bT x.2).length<=4000000)(l:∀i,i<=x.2.length->(bT (x.2.take i)).length<=4000000):
  dL (ι:=K4 (et x)) X 38 [BH x] [] (λ_=>.e (.one (.bp 0 (.sl (bT x.2).length 1 0 (et x).length)))) (λes=>[.buf 3 1 (bT x.2).length es.1]):=by
 refine dL.oc Tryz.func38 rfl rfl rfl λo=>?_;refine bF [(1000002,ab)] rfl ar ?_;refine AK.Tx 3 3 1 (cI.fn []) rfl ?_;refine c9 rfl ar ?_;refine AK.bY 2 (λi=>i<=x.2.length) (λi:Nat=>[(3,.e (.one (.bp 1 (.sl (bT (x.2.take i)).length 1 0 (bT (x.2.take i)).length)))),(7,cL.sl x.2),(8,dI x.2.length),(9,dI i)])
  (λi=>[.cells 39 [.c (.int .i64 x.1),.c (.sl ae 2 x.2.length (cL.fn x.2))],AH (bT (x.2.take i)).length (bT (x.2.take i))]) (λi=>x.2.length-i) 0 rfl ?_ rfl ?_ rfl (by omega) ?_
 .simp[bT]
 .simp[cp,bT]
 intro i hi;by_cases h:i<x.2.length
 .have d:x.2.getD (i:Int).toNat cL.bR=x.2.getD i ([],[]):=by rw[bL];rfl
  have a:=rW h;have f:=l (i+1) h;rw[a,cv]at f;refine bF [(10,ab)] rfl ?_ (AK.aQ (i+1) rfl ?_ ?_ ?_ ?_)
  .simp only[au,d,bw,show i3.bytes=8 from rfl,bl,aH,aE];and_intros<;>omega
  .simp only[au.cat,au,d,a,cv,aE,aH];and_intros<;>first|exact cp.same|rfl|omega
  .have e:=cI.Ku (bT (x.2.take i)) (x.2.getD i ([],[])).2 _ rfl;simp only[au.cat,au,d,a,cv,aE,aH]at e⊢;exact⟨cp.same,e⟩
  .show i+1<=_;omega
  .omega
 .obtain rfl:i=x.2.length:=by omega
  rw[cO];refine bF [(10,ae)] rfl (by simp) (AK.leaveD rfl rfl ?_);refine c9 rfl ar ?_;refine AK.cQ (wG (bT x.2) k) [1] rfl ?_;refine c9 rfl ar ?_;have g:=wH (X:=X) (ky (bT x.2)) (by rw[fh];exact k);rw[fh]at g;refine AK.cP g [1] rfl (λ_=>rfl) ?_;rintro⟨es,b⟩;refine c9 rfl ar (AK.kK ⟨es,b⟩ (AK.dG [1] rfl ?_ rfl rfl rfl (λj m=>absurd m (by simp))));simp[et]
def m8(l:List gz)(i:Nat):(bT (l.take i)).length<=(bT l).length:=by
 have h:bT l=bT (l.take i)++bT (l.drop i):=by unfold bT;grind[List.take_append_drop]
 grind
def nQ(l:List Int):(dY l).length<=l.length:=rX l _
def Ak(x:cC)(d:x.2.length<=4000000)(c:(bT x.2).length<=4000000):Ev X 38 [BH x] [] (cI.sl (et x)) []:=by
 have a:=xB (X:=X) x d c λi _=>dO (m8 _ _) c;have b:=dL.Bx (σ1:=λ_:K4 (et x)=>[]) (E:=3) (k:=1) (n:=λ_=>(bT x.2).length) (es:=λes=>es.1) a (λ_=>rfl) (λ_=>?_) (λ_=>rfl) (λ_=>aZ _);refine(b.le (res':=λ_=>cI.sl (et x)) (λ_=>rfl) (λes=>?_)).one
 .simp only[au.cat,au,aE,aH];exact es.2
 .have:(et x).length<=(bT x.2).length:=by unfold et;rw[<-fh (bT x.2)];exact nQ _
  simpa using this
def JP(s:Bs)(i:Nat)(a:b6 s=ab)(f:3<=i)(hi:i<=s.length)(e:s.length<=4000000):Ev X 230 [dS s,dI i] [] (dB (iD s i)) []:=by
 refine Ev.bQ Tryz.func230 rfl λg=>?_;have k:=Gw a (i-1) (by omega);have h:=Gw a (i-2) (by omega);have j:=Gw a (i-3) (by omega);have b:((iG s ((i:Int)-1)).toNat:Int)=cw s (i-1):=by grind[cz]
 have d:((iG s ((i:Int)-2)).toNat:Int)=cw s (i-2):=by grind[cz]
 have c:((iG s ((i:Int)-3)).toNat:Int)=cw s (i-3):=by grind[cz]
 refine bx rfl ?_ (AK.bo rfl ?_)
 .simp only[au,bw,b,d,c];omega
 .simp only[au,au.cat,b,d,c,iD,dl,aE];grind
abbrev JQ:dy:=oa aS aI (λs i=>dB (iD s i.toNat)) λs i=>[b6 s=ab,3<=i,i<=s.length,s.length<=4000000]
def QW:dM X 230 JQ:=.qC λs i h=>by
 obtain⟨b,c,d,a⟩:=h;obtain⟨m,rfl⟩:∃m:Nat,i=m:=⟨i.toNat,by omega⟩
 exact JP s m b (by omega) (by omega) a
def QX(t:Bs)(f:Nat)(g:b6 t=ab)(n:f<=t.length)(o:t.length<=4000000):Ev X 220 [dS t,dI f] [] (dI (cutAt t f)) []:=by
 refine Ev.bQ Tryz.func220 rfl λp=>?_;have b:bA X [(230,JQ)]:=.cons QW .nil;refine bZ b rfl ar ?_;refine AK.jA (λj=>j<=5/\sO t f (5-j)=cutAt t f) (λj:Nat=>[(0,dS t),(1,dI f),(5,dI (3+j))]) (λ_=>[]) (λj=>5-j) 0 rfl ?_ rfl ar ⟨by omega,rfl⟩ ?_
 .simp
 rintro j ⟨q,a⟩;by_cases h:j<5
 .obtain⟨k,l⟩:∃k,5-j=k+1:=⟨4-j,by omega⟩
  have d:f+(7-k)=f+3+j:=by omega
  rw[l]at a;simp only[sO,d]at a;by_cases i:t.length<=f+3+j
  .rw[bn i]at a;refine aR b [(7,ab),(15,ab)] rfl ?_ (AK.gU (cd.zero rfl ?_))
   .simp only[au,bw,bl,aH,aE];omega
   .simp[<-a]
  rw[a9 i]at a;have e:((f:Int)+(3+(j:Int))).toNat=f+3+j:=by omega
  cases c:iD t (f+3+j)with
  |true =>
   rw[c,bn rfl]at a;refine aR b [(7,ab),(15,ae),(22,ab)] rfl ?_ (AK.gU (cd.zero rfl ?_))
   .simp only[au,bw,e,c,g,bl,b7,aH,aE];omega
   .simp[<-a];omega
  |false =>
   rw[c,a9 (by simp)]at a;refine aR b [(7,ab),(15,ae),(22,ae)] rfl ?_ (AK.fK (j+1) rfl ?_ rfl ar ⟨by omega,by grind⟩ (by omega))
   .simp only[au,bw,e,c,g,bl,b7,aH,aE];omega
   .simp;omega
 .have e:cutAt t f=min (f+8) t.length:=by rw[<-a,show 5-j=0 by omega];rfl
  have m:bw .i64 ((min (f+8) t.length:Nat):Int):=by simp only[bw];omega
  refine aR b [(7,ae)] rfl ?_ (AK.leave rfl rfl ?_)
  .simp only[au,bw,bl,b7];omega
  refine bZ b rfl ?_ ?_
  .simp only[au,bw];omega
  refine AK.law (zV ((min (f+8) t.length:Nat):Int) rfl rfl rfl (by omega) m) rfl rfl ?_;refine bZ b rfl ar (AK.bo rfl ?_);simp[e]
abbrev T8:dy:=oa aS aI (λs i=>dI (cutAt s i.toNat)) λs i=>[b6 s=ab,0<=i,i<=s.length,s.length<=4000000]
def Xq:dM X 220 T8:=.qC λs i h=>by
 obtain⟨b,c,d,a⟩:=h;obtain⟨m,rfl⟩:∃m:Nat,i=m:=⟨i.toNat,by omega⟩
 exact QX s m b (by omega) a
abbrev mc(t:Bs):List Int:=(z9 t).map λn:Nat=>(n:Int)
def JR(t:Bs)(m:b6 t=ab)(o:t.length<=4000000):Ev X 198 [dS t] [] (cI.sl (mc t)) []:=by
 refine Ev.bQ Tryz.func198 rfl λp=>?_;have b:bA X [(220,T8)]:=.cons Xq .nil;refine aR b [(1000003,ab)] rfl ar ?_;refine AK.ix 3 3 1 rfl rfl ?_;refine bZ b rfl ar ?_;refine AK.bY 1 (λs:Nat×List Int=>s.1<=t.length/\s.2.length<=s.1/\∃k,t.length<=s.1+k/\mc t=s.2++(md t k s.1).map λn:Nat=>(n:Int)) (λs=>[(0,dS t),(3,.e (.one (.vec 0 1 s.2.length (cI.fn s.2)))),(4,dI s.1)]) (λs=>[.vec 3 1 s.2.length (cI.fn s.2)]) (λs=>t.length-s.1) (0,[]) rfl ?_ rfl ?_ rfl ⟨by simp,by simp,t.length,by simp,by simp[mc,z9]⟩ ?_
 .simp
 .simp
 rintro⟨f,acc⟩ ⟨c,a,k,j,d⟩;simp only at c a j d;by_cases h:f<t.length
 .obtain⟨k,rfl⟩:∃k',k=k'+1:=⟨k-1,by omega⟩
  have l:=mX t f h;have g:=cI.cr acc (cutAt t f:Int);have i:acc.length+1=(acc++[(cutAt t f:Int)]).length:=by simp
  refine aR b [(9,ab)] rfl ?_ (AK.aQ (cutAt t f,acc++[(cutAt t f:Int)]) rfl ?_ ?_ ?_ ?_)
  .simp only[au,m,show i3.bytes=8 from rfl,bl,aH,aE];and_intros<;>omega
  .exact au.cat.2 ⟨rfl,au.cat.2 ⟨⟨i,g⟩,au.cat.2 ⟨rfl,ar⟩⟩⟩
  .exact au.cat.2 ⟨⟨i,g⟩,ar⟩
  .refine⟨l.2.1,by grind,k,by grind,?_⟩;rw[d];simp only[md,bn h];simp
  grind
 .have e:mc t=acc:=by
   have:md t k f=[]:=by cases k<;>simp[md,h]
   grind
  refine aR b [(9,ae)] rfl (by simp only[au,b7];omega) (AK.leaveD rfl rfl ?_);refine bZ b rfl ar (AK.bo rfl ?_);rw[e];simp
abbrev JS:dy:=kB aS (λt=>cI.sl (mc t)) λt=>[b6 t=ab,t.length<=4000000]
def QY:dM X 198 JS:=.ox λt h=>JR t h.1 h.2
def drop_cons{l r:List α}{x:α}(h:l.drop i=x::r)(d:α):i<l.length/\l.getD i d=x/\l.drop (i+1)=r:=by grind[List.drop_eq_nil_of_le,List.drop_eq_getElem_cons]
def ye(t:Bs):∀k f,(md t k f).length<=k
 |0,_=>aZ _
 |k+1,f=>by
  simp only[md];split
  .have:=ye t k (cutAt t f);grind
  .simp
def Nt(t:Bs)(w:b6 t=ab)(B:t.length<=4000000):Ev X 147 [dS t] [] (cS.sl (pieces t)) []:=by
 refine Ev.bQ Tryz.func147 rfl λA=>?_;have c:bA X [(198,JS)]:=.cons QY .nil;have z:(mc t).length<=t.length:=by simp only[mc,mx];exact ye t _ _
 refine aR c [(1000002,ab)] rfl ar ?_;refine AK.ix 3 9 1 rfl rfl ?_;refine bZ c rfl (by simp only[au,w];grind) ?_;refine AK.bY 1 (λs:Nat×Nat×List Bs=>s.1<=(mc t).length/\s.2.1<=t.length/\s.2.2.length<=s.1/\∃k,t.length<=s.2.1+k/\(mc t).drop s.1=((md t k s.2.1).map λn:Nat=>(n:Int))/\pieces t=s.2.2++fg t k s.2.1) (λs=>[(0,dS t),(3,.e (.one (.vec 0 1 s.2.2.length (cS.fn s.2.2)))),(4,dI s.2.1),(5,cI.sl (mc t)),(6,dI s.1)]) (λs=>[.vec 9 1 s.2.2.length (cS.fn s.2.2)]) (λs=>(mc t).length-s.1) (0,0,[]) rfl ?_ rfl ?_ rfl ⟨by simp,by simp,by simp,t.length,by simp,by simp[mc,z9],by simp[pieces]⟩ ?_
 .simp
 .simp
 rintro⟨i,f,acc⟩ ⟨hi,l,g,k,x,o,m⟩;simp only at hi l g x o m;by_cases h:i<(mc t).length
 .have d:md t k f≠[]:=by grind[List.length_drop]
  obtain⟨k,rfl⟩:∃k',k=k'+1:=by
   cases k with
   |zero=>exact absurd rfl d
   |succ k=>grind
  have a:f<t.length:=by
   rcases cA f t.length with h|h
   .exact h
   .exact absurd (by simp only[md,a9 (show¬f<t.length by omega)]) d
  simp only[md,bn a,jl]at o;obtain⟨_,y,g2⟩:=drop_cons o 0;have u:=mX t f a;have j:(mc t).getD (i:Int).toNat cI.bR=(cutAt t f:Int):=by grind
  have b:rB t (aa (f:Int)) (aa (cutAt t f:Int))=(t.drop f).take (cutAt t f-f):=by simp[rB,List.drop_take]
  have q:=cS.cr acc ((t.drop f).take (cutAt t f-f));have p:acc.length+1=(acc++[(t.drop f).take (cutAt t f-f)]).length:=by simp
  refine aR c [(13,ab)] rfl ?_ (AK.aQ (i+1,cutAt t f,acc++[(t.drop f).take (cutAt t f-f)]) rfl ?_ ?_ ?_ ?_)
  .simp only[au,j,bw,fE,show i9.bytes=16 from rfl,bl,aH,aE];and_intros<;>omega
  .simp only[au.cat,au,j,b,aH,aE];and_intros<;>first|exact p|exact q|exactλ_ _=>rfl|omega
  .simp only[au.cat,au,j,b,aH,aE];and_intros<;>first|exact p|exact q
  .refine⟨by grind,u.2.1,by grind,k,by grind,g2,?_⟩;rw[m];simp only[fg,bn a];simp
  grind
 .have e:pieces t=acc:=by
   have r:md t k f=[]:=by grind[List.map_eq_nil_iff]
   have a:¬f<t.length:=by
    intro v;cases k with
    |zero=>omega
    |succ k=>simp only[md,bn v]at r;cases r
   rw[m];cases k<;>simp[fg,a]
  refine aR c [(13,ae)] rfl (by simp only[au,b7];omega) (AK.leaveD rfl rfl ?_);refine bZ c rfl ar (AK.bo rfl ?_);rw[e];simp
abbrev Fw:dy:=kB aS (λt=>cS.sl (pieces t)) λt=>[b6 t=ab,t.length<=4000000]
def JU:dM X 147 Fw:=.ox λt h=>Nt t h.1 h.2
def _root_.Go.AM.jY.m6(c:jY α)(l:List α)(x y:α):cp (l.length+1+1) (cy (l.length+1) (cy l.length (c.fn l) λq=>[c.enc x].getD q []) λq=>[c.enc y].getD q []) (c.fn (l++[x,y])):=by
 have h1:=c.cr l x;have h2:=c.cr (l++[x]) y;rw[show(l++[x]).length=l.length+1 by simp,show l++[x]++[y]=l++[x,y] by simp]at h2;intro q a;rw[<-h2 q a];simp only[cy];by_cases e:q<l.length+1
 .rw[bn e,bn e];exact h1 q e
 grind
abbrev Q1(x:cn):D:=.e (.agg [.c (.int .i64 x.1),.c (.str x.2)])
def iz(x:cn)(acc:List cn×Bool)(y:cn):List cn×Bool:=if acc.2=ab then(acc.1++[y],ab)else if x.1<y.1 then(acc.1++[x,y],ab)else(acc.1++[y],ae)
def yj(x:cn):∀(l:List cn)(a:List cn),(l.foldl (iz x) (a,ab))=(a++l,ab)
 |[],a=>by simp
 |y::r,a=>by rw[iB,show iz x (a,ab) y=(a++[y],ab)from rfl,yj x r];simp
def sT(x:cn):∀(l:List cn)(a:List cn),(if(l.foldl (iz x) (a,ae)).2=ab then(l.foldl (iz x) (a,ae)).1 else(l.foldl (iz x) (a,ae)).1++[x])=a++lW l x
 |[],a=>by simp[lW]
 |y::r,a=>by
  rw[iB];by_cases h:x.1<y.1
  .rw[show iz x (a,ae) y=(a++[x,y],ab) by simp[iz,h],yj];simp[lW,h]
  .rw[show iz x (a,ae) y=(a++[y],ae) by simp[iz,h],sT x r];simp[lW,h]
theorem yk(x:cn):∀(l:List cn)(a:List cn×Bool),(l.foldl (iz x) a).1.length<=a.1.length+l.length+1-(if a.2=ab then 1 else 0)
 |[],a=>by grind
 |y::r,a=>by rw[iB];have:=yk x r (iz x a y);unfold iz at this⊢;grind
abbrev mG(x:cn)(l:List cn)(i:Nat):List cn×Bool:=(l.take i).foldl (iz x) ([],ae)
def yl{x:cn}{l:List cn}(h:i<l.length):mG x l (i+1)=iz x (mG x l i) (l.getD i (0,[])):=by grind[bt]
def rP(x:cn)(l:List cn)(i:Nat):(mG x l i).1.length<=l.length+1:=by grind[yk]
abbrev YY(l:List cn)(x:cn)(i:Nat)(a:List cn×Bool):Fr:=[(0,er.sl l),(3,.e (.one (.ptr 0 0))),(5,.e (.one (.vec 1 2 a.1.length (er.fn a.1)))),(6,dB a.2),(7,dI i)]
abbrev Xu(x:cn)(a:List cn):List bd:=[.cells 68 [.c (.int .i64 x.1),.c (.str x.2)],.vec 68 2 a.length (er.fn a)]
def Ny(l:List cn)(x:cn)(p:l.length<=4000000):Ev X 152 [er.sl l,Q1 x] [] (er.sl (lW l x)) []:=by
 refine Ev.bQ Tryz.func152 rfl λq=>?_;refine bF [(1000002,ab)] rfl ar ?_;refine AK.ix 5 68 2 rfl rfl ?_;refine c9 rfl ar ?_;refine AK.bY 2 (λi=>i<=l.length) (λi:Nat=>YY l x i (mG x l i)) (λi=>Xu x (mG x l i).1) (λi=>l.length-i) 0 rfl ?_ rfl ?_ rfl (by omega) ?_
 .simp[mG]
 .simp[mG]
 intro i hi;by_cases h:i<l.length
 .have n:=yl (x:=x) h;have e:=rP x l i;have g:l.getD (i:Int).toNat er.bR=l.getD i (0,[]):=by grind
  generalize mG x l i=a at n e;obtain⟨a,b⟩:=a;simp only at e;have k:=er.cr a (l.getD i (0,[]));have m:=er.m6 a x (l.getD i (0,[]));cases b with
  |true =>
   have c:mG x l (i+1)=(a++[l.getD i (0,[])],ab):=n;have j:a.length+1=(a++[l.getD i (0,[])]).length:=by simp
   refine bF [(12,ab)] rfl ?_ (AK.aQ (i+1) rfl ?_ ?_ ?_ ?_)
   .simp only[au,g,bw,show i68.bytes=24 from rfl,bl,aH,aE];and_intros<;>omega
   .rw[c];simp only[au.cat,au,g,aH,aE];and_intros<;>first|exact j|exact k|exactλ_ _=>rfl|rfl|omega
   .rw[c];simp only[au.cat,au,g,aH,aE];and_intros<;>first|exact j|exact k|exactλ_ _=>rfl|rfl|omega
   .grind
   .omega
  |false =>
   by_cases f:x.1<(l.getD i (0,[])).1
   .have c:mG x l (i+1)=(a++[x,l.getD i (0,[])],ab):=by rw[n];simp only[iz,bn f];rfl
    have j:a.length+1+1=(a++[x,l.getD i (0,[])]).length:=by simp
    refine bF [(12,ab),(25,ab)] rfl ?_ (AK.aQ (i+1) rfl ?_ ?_ ?_ ?_)
    .simp only[au,g,bw,show i68.bytes=24 from rfl,f,lY,bl,aH,aE];and_intros<;>omega
    .rw[c];simp only[au.cat,au,g,aH,aE];and_intros<;>first|exact j|exact m|exactλ_ _=>rfl|rfl|omega
    .rw[c];simp only[au.cat,au,g,aH,aE];and_intros<;>first|exact j|exact m|exactλ_ _=>rfl|rfl|omega
    .grind
    .omega
   .have c:mG x l (i+1)=(a++[l.getD i (0,[])],ae):=by rw[n];simp only[iz,a9 f];rfl
    have j:a.length+1=(a++[l.getD i (0,[])]).length:=by simp
    refine bF [(12,ab),(25,ae)] rfl ?_ (AK.aQ (i+1) rfl ?_ ?_ ?_ ?_)
    .simp only[au,g,bw,show i68.bytes=24 from rfl,bl,f,kS,oz,b7,aH,aE];and_intros<;>omega
    .rw[c];simp only[au.cat,au,g,aH,aE];and_intros<;>first|exact j|exact k|exactλ_ _=>rfl|rfl|omega
    .rw[c];simp only[au.cat,au,g,aH,aE];and_intros<;>first|exact j|exact k|exactλ_ _=>rfl|rfl|omega
    .grind
    .omega
 .obtain rfl:i=l.length:=by omega
  have d:=sT x l [];have e:=rP x l l.length;refine bF [(12,ae)] rfl (by simp) (AK.leaveD rfl rfl ?_);have o:mG x l l.length=l.foldl (iz x) ([],ae):=by grind
  rw[o]at e⊢;generalize l.foldl (iz x) ([],ae)=a at *;obtain⟨a,b⟩:=a;simp only[um]at d e;cases b with
  |true =>
   simp only[b5]at d;subst d;exact c9 rfl ar (AK.bo rfl)
  |false =>
   simp only[gJ,bM]at d;have k:=er.cr a x;refine c9 rfl ?_ (AK.bo rfl ?_)
   .simp only[au,show i68.bytes=24 from rfl,aH,aE];grind
   .rw[<-d];simp only[au.cat,au,aH,aE];and_intros<;>first|exact k|simp
abbrev O3:dy:=oa (aL er) Sb (λl x=>er.sl (lW l x)) λl _=>[l.length<=4000000]
def Uf:dM X 152 O3:=.qC λl x h=>Ny l x h
abbrev Xv(x:dw):D:=.e (.agg [.c (.int .i64 x.1),.c (.int .i64 x.2)])
def eJ(x:dw)(acc:List dw×Bool)(y:dw):List dw×Bool :=
 if acc.2=ab then(if y.1=x.1 then acc else(acc.1++[y],ab))else if x.1<=y.1 then(if y.1=x.1 then(acc.1++[x],ab)else(acc.1++[x,y],ab))else(acc.1++[y],ae)
def pU(x:dw):∀(l:List dw)(a:List dw),(l.foldl (eJ x) (a,ab))=(a++l.filter λz=>!(z.1==x.1),ab)
 |[],a=>by simp
 |y::r,a=>by
  rw[iB];by_cases h:y.1=x.1
  .rw[show eJ x (a,ab) y=(a,ab) by simp[eJ,h],pU x r];simp[h]
  .rw[show eJ x (a,ab) y=(a++[y],ab) by simp[eJ,h],pU x r];simp[h]
def ym(x:dw):∀(l:List dw)(a:List dw),(if(l.foldl (eJ x) (a,ae)).2=ab then(l.foldl (eJ x) (a,ae)).1 else(l.foldl (eJ x) (a,ae)).1++[x])=a++qF l x
 |[],a=>by simp[qF]
 |y::r,a=>by
  rw[iB];by_cases h:x.1<=y.1
  .have c:¬y.1<x.1:=by omega
   by_cases b:y.1=x.1
   .rw[show eJ x (a,ae) y=(a++[x],ab) by simp[eJ,b],pU];simp[qF,b]
   .rw[show eJ x (a,ae) y=(a++[x,y],ab) by simp[eJ,h,b],pU];simp[qF,c,b]
  .have c:y.1<x.1:=by omega
   rw[show eJ x (a,ae) y=(a++[y],ae) by simp[eJ,h],ym x r];simp[qF,c]
theorem yn(x:dw):∀(l:List dw)(a:List dw×Bool),(l.foldl (eJ x) a).1.length<=a.1.length+l.length+1-(if a.2=ab then 1 else 0)
 |[],a=>by grind
 |y::r,a=>by
  rw[iB];have d:=yn x r (eJ x a y);obtain⟨a,b⟩:=a;simp only[gb];cases b with
  |true =>
   by_cases c:y.1=x.1
   .rw[show eJ x (a,ab) y=(a,ab) by simp[eJ,c]]at d⊢;grind
   .rw[show eJ x (a,ab) y=(a++[y],ab) by simp[eJ,c]]at d⊢;grind
  |false =>
   by_cases h:x.1<=y.1
   .by_cases c:y.1=x.1
    .rw[show eJ x (a,ae) y=(a++[x],ab) by simp[eJ,c]]at d⊢;grind
    .rw[show eJ x (a,ae) y=(a++[x,y],ab) by simp[eJ,h,c]]at d⊢;grind
   .rw[show eJ x (a,ae) y=(a++[y],ae) by simp[eJ,h]]at d⊢;grind
abbrev rQ(x:dw)(l:List dw)(i:Nat):List dw×Bool:=(l.take i).foldl (eJ x) ([],ae)
def GO{x:dw}{l:List dw}(h:i<l.length):rQ x l (i+1)=eJ x (rQ x l i) (l.getD i (0,0)):=by grind[bt]
def BQ(x:dw)(l:List dw)(i:Nat):(rQ x l i).1.length<=l.length+1:=by grind[yn]
abbrev p4F(l:List dw)(x:dw)(i:Nat)(a:List dw×Bool):Fr:=[(0,ou.sl l),(3,.e (.one (.ptr 0 0))),(5,.e (.one (.vec 1 2 a.1.length (ou.fn a.1)))),(6,dB a.2),(7,dI i)]
abbrev p4B(x:dw)(a:List dw):List bd:=[.cells 189 [.c (.int .i64 x.1),.c (.int .i64 x.2)],.vec 189 2 a.length (ou.fn a)]
def Nz(l:List dw)(x:dw)(p:l.length<=4000000):Ev X 151 [ou.sl l,Xv x] [] (ou.sl (qF l x)) []:=by
 refine Ev.bQ Tryz.func151 rfl λq=>?_;refine bF [(1000002,ab)] rfl ar ?_;refine AK.ix 5 189 2 rfl rfl ?_;refine c9 rfl ar ?_;refine AK.bY 2 (λi=>i<=l.length) (λi:Nat=>p4F l x i (rQ x l i)) (λi=>p4B x (rQ x l i).1) (λi=>l.length-i) 0 rfl ?_ rfl ?_ rfl (by omega) ?_
 .simp[rQ]
 .simp[rQ]
 intro i hi;by_cases h:i<l.length
 .have n:=GO (x:=x) h;have k:=BQ x l i;have f:l.getD (i:Int).toNat ou.bR=l.getD i (0,0):=by grind
  generalize rQ x l i=a at n k;obtain⟨a,b⟩:=a;simp only at k;have j:=ou.cr a (l.getD i (0,0));have m:=ou.cr a x;have d:=ou.m6 a x (l.getD i (0,0));cases b with
  |true =>
   by_cases heq:(l.getD i (0,0)).1=x.1
   .have c:rQ x l (i+1)=(a,ab):=by rw[n];simp only[eJ,b5,bn heq]
    refine bF [(12,ab),(38,ae)] rfl ?_ (AK.aQ (i+1) rfl ?_ ?_ ?_ ?_)
    .simp only[au,f,bw,show i189.bytes=16 from rfl,bl,b7,iU,qU,hO,fy,pw,cR,heq,fa,oz,jQ,kG,mq,lY,kS,aH,aE];and_intros<;>omega
    .rw[c];simp only[au.cat,au,f,aH,aE];and_intros<;>first|exact j|exact m|exact d|exactλ_ _=>rfl|rfl|omega|simp
    .rw[c];simp only[au.cat,au,f,aH,aE];and_intros<;>first|exact j|exact m|exact d|exactλ_ _=>rfl|rfl|omega|simp
    .grind
    .omega
   .have c:rQ x l (i+1)=(a++[l.getD i (0,0)],ab):=by rw[n];simp only[eJ,b5,a9 heq]
    refine bF [(12,ab),(38,ab)] rfl ?_ (AK.aQ (i+1) rfl ?_ ?_ ?_ ?_)
    .simp only[au,f,bw,show i189.bytes=16 from rfl,bl,b7,iU,qU,hO,fy,pw,cR,heq,fa,oz,jQ,kG,mq,lY,kS,aH,aE];and_intros<;>omega
    .rw[c];simp only[au.cat,au,f,aH,aE];and_intros<;>first|exact j|exact m|exact d|exactλ_ _=>rfl|rfl|omega|simp
    .rw[c];simp only[au.cat,au,f,aH,aE];and_intros<;>first|exact j|exact m|exact d|grind|rfl|omega|simp
    .grind
    .omega
  |false =>
   by_cases g:x.1<=(l.getD i (0,0)).1
   .by_cases heq:(l.getD i (0,0)).1=x.1
    .have c:rQ x l (i+1)=(a++[x],ab):=by rw[n];simp only[eJ,bn g,bn heq];rfl
     refine bF [(12,ab),(25,ab),(38,ae)] rfl ?_ (AK.aQ (i+1) rfl ?_ ?_ ?_ ?_)
     .simp only[au,f,bw,show i189.bytes=16 from rfl,bl,b7,iU,qU,hO,fy,pw,cR,g,heq,fa,oz,jQ,kG,mq,lY,kS,aH,aE];and_intros<;>omega
     .rw[c];simp only[au.cat,au,f,aH,aE];and_intros<;>first|exact j|exact m|exact d|exactλ_ _=>rfl|rfl|omega|simp
     .rw[c];simp only[au.cat,au,f,aH,aE];and_intros<;>first|exact j|exact m|exact d|grind|rfl|omega|simp
     .grind
     .omega
    .have c:rQ x l (i+1)=(a++[x,l.getD i (0,0)],ab):=by rw[n];simp only[eJ,bn g,a9 heq];rfl
     refine bF [(12,ab),(25,ab),(38,ab)] rfl ?_ (AK.aQ (i+1) rfl ?_ ?_ ?_ ?_)
     .simp only[au,f,bw,show i189.bytes=16 from rfl,bl,b7,iU,qU,hO,fy,pw,cR,g,heq,fa,oz,jQ,kG,mq,lY,kS,aH,aE];and_intros<;>omega
     .rw[c];simp only[au.cat,au,f,aH,aE];and_intros<;>first|exact j|exact m|exact d|exactλ_ _=>rfl|rfl|omega|simp
     .rw[c];simp only[au.cat,au,f,aH,aE];and_intros<;>first|exact j|exact m|exact d|grind|rfl|omega|simp
     .grind
     .omega
   .have heq:¬(l.getD i (0,0)).1=x.1:=by omega
    have c:rQ x l (i+1)=(a++[l.getD i (0,0)],ae):=by rw[n];simp only[eJ,a9 g];rfl
    refine bF [(12,ab),(25,ae),(38,ab)] rfl ?_ (AK.aQ (i+1) rfl ?_ ?_ ?_ ?_)
    .simp only[au,f,bw,show i189.bytes=16 from rfl,bl,b7,iU,qU,hO,fy,pw,cR,g,heq,fa,oz,jQ,kG,mq,lY,kS,aH,aE];and_intros<;>omega
    .rw[c];simp only[au.cat,au,f,aH,aE];and_intros<;>first|exact j|exact m|exact d|exactλ_ _=>rfl|rfl|omega|simp
    .rw[c];simp only[au.cat,au,f,aH,aE];and_intros<;>first|exact j|exact m|exact d|grind|rfl|omega|simp
    .grind
    .omega
 .obtain rfl:i=l.length:=by omega
  have e:=ym x l [];have k:=BQ x l l.length;refine bF [(12,ae)] rfl (by simp) (AK.leaveD rfl rfl ?_);have o:rQ x l l.length=l.foldl (eJ x) ([],ae):=by grind
  rw[o]at k⊢;generalize l.foldl (eJ x) ([],ae)=a at *;obtain⟨a,b⟩:=a;simp only[um]at e k;cases b with
  |true =>
   simp only[b5]at e;subst e;exact c9 rfl ar (AK.bo rfl)
  |false =>
   simp only[gJ,bM]at e;have j:=ou.cr a x;refine c9 rfl ?_ (AK.bo rfl ?_)
   .simp only[au,show i189.bytes=16 from rfl,aH,aE];grind
   .rw[<-e];simp only[au.cat,au,aH,aE];and_intros<;>first|exact j|simp
abbrev O4:dy:=oa (aL ou) Vt (λl x=>ou.sl (qF l x)) λl _=>[l.length<=4000000]
def Ug:dM X 151 O4:=.qC λl x h=>Nz l x h
abbrev Aa(p:ba):List dw:=p.2.map λx=>(x.1,p.1)
def sU(l:List ba)(i j:Nat):List dw:=eP (l.take i)++(Aa (l.getD i (0,[]))).take j
def wj{l:List ba}(h:i<l.length):eP (l.take (i+1))=eP (l.take i)++Aa (l.getD i (0,[])):=by rw[bt h (0,[])];simp[eP]
theorem J0(l:List ba)(i:Nat):(eP (l.take i)).length<=(eP l).length:=by
 have h:eP l=eP (l.take i)++eP (l.drop i):=by unfold eP;grind[List.take_append_drop]
 grind
def BR{l:List ba}(h:i<l.length):∃r,eP l=sU l i j++r:=by
 have a:eP l=eP (l.take (i+1))++eP (l.drop (i+1)):=by unfold eP;grind[List.take_append_drop]
 refine⟨(Aa (l.getD i (0,[]))).drop j++eP (l.drop (i+1)),?_⟩;rw[a,wj h,sU,jP,jP];grind[List.take_append_drop]
theorem J1(l:List dw)(x:dw):(qF l x).length<=l.length+1:=by
 induction l with
 |nil=>simp[qF]
 |cons y r a =>
  simp only[qF];grind
theorem yh(l:List dw):∀a:List dw,(l.foldl qF a).length<=a.length+l.length:=by
 induction l with
 |nil=>grind
 |cons y r b=>grind[J1]
def DW(l:List ba)(w:l.length<=4000000)(x:(eP l).length<=100000):Ev X 107 [cP.sl l] [] (ou.sl (indexOf l)) []:=by
 refine Ev.bQ Tryz.func107 rfl λy=>?_;have a:bA X [(150,JO),(151,O4)]:=.cons QV (.cons Ug .nil);refine cJ a rfl ar ?_;refine AK.bY 0 (λi=>i<=l.length/\(eP (l.take i)).all kL=ab) (λi:Nat=>[(0,cP.sl l),(3,ou.sl ((eP (l.take i)).foldl qF [])),(4,dI i)]) (λ_=>[]) (λi=>l.length-i) 0 rfl ?_ rfl ?_ rfl ⟨by omega,rfl⟩ ?_
 .simp[eP]
 .simp
 rintro i ⟨hi,c⟩;by_cases h:i<l.length
 .have e:l.getD (i:Int).toNat cP.bR=l.getD i (0,[]):=by grind
  have f:=wj h;refine bq a [(11,ab)] rfl (by simp only[au,bl];omega) ?_;refine AK.bY 0 (λj=>j<=(l.getD i (0,[])).2.length/\(sU l i j).all kL=ab) (λj:Nat=>[(0,cP.sl l),(3,ou.sl ((sU l i j).foldl qF [])),(4,dI i),(5,dI j)]) (λ_=>[]) (λj=>(l.getD i (0,[])).2.length-j) 0 rfl ?_ rfl ?_ rfl ⟨by omega,by simpa[sU]using c⟩ ?_
  .simp[sU]
  .simp
  rintro j ⟨v,o⟩;obtain⟨r,p⟩:=BR (l:=l) (j:=j) h;have m:(sU l i j).length<=100000:=by grind
  have k:=yh (sU l i j) [];simp only[jk]at k;have s:(l.getD i (0,[])).2.length<=100000:=by grind[J0]
  by_cases u:j<(l.getD i (0,[])).2.length
  .have b:(l.getD i (0,[])).2.getD (j:Int).toNat er.bR=(l.getD i (0,[])).2.getD j (0,[]):=by grind
   have g:sU l i (j+1)=sU l i j++[(((l.getD i (0,[])).2.getD j (0,[])).1,(l.getD i (0,[])).1)]:=by unfold sU;rw[jP];congr 1;rw[bt (by grind) (0,0)];grind
   cases d:kL (((l.getD i (0,[])).2.getD j (0,[])).1,(l.getD i (0,[])).1)with
   |false =>
    have t:indexOf l=[]:=by obtain⟨r,p⟩:=BR (l:=l) (j:=j+1) h;unfold indexOf;rw[a9];grind
    refine bq a [(21,ab),(40,ae)] rfl ?_ (AK.eX (cd.zero rfl ?_))
    .simp only[au,e,b,d,bl,aH,aE];and_intros<;>omega
    .rw[t];simp
   |true =>
    refine bq a [(21,ab),(40,ab)] rfl ?_ (AK.aQ (j+1) rfl ?_ ?_ ?_ ?_)
    .simp only[au,e,b,d,bw,ou.list_fn,bl,aH,aE];and_intros<;>first|exact ou.aO _|omega
    .rw[g];simp only[uj,iB,List.foldl_nil,au.cat,au,e,b,ou.list_fn,aH,aE];and_intros<;>first|exactλ_ _=>rfl|rfl|omega
    .simp
    .grind
    .omega
  .have q:j=(l.getD i (0,[])).2.length:=by omega
   have n:sU l i j=eP (l.take (i+1)):=by rw[f,sU];grind[List.length_map]
   refine bq a [(21,ae)] rfl ?_ (AK.leaveD rfl rfl ?_)
   .simp only[au,e,b7];and_intros<;>omega
   refine cJ a rfl ?_ (AK.aQ (i+1) rfl ?_ ?_ ?_ ?_)
   .simp only[au,bw];omega
   .rw[n];simp
   .simp
   .grind
   .omega
 .obtain rfl:i=l.length:=by omega
  rw[cO]at c⊢;refine bq a [(11,ae)] rfl (by simp) (AK.leaveD rfl rfl ?_);refine cJ a rfl ar (AK.bo rfl ?_);simp[indexOf,c]
abbrev J2:dy:=kB (aL cP) (λl=>ou.sl (indexOf l)) λl=>[l.length<=4000000,(eP l).length<=100000]
def Q2:dM X 107 J2:=.ox λl h=>DW l h.1 h.2
abbrev wm:dy:=oa aI aS (λk p=>dI (gp k p)) λk p=>[cB k=ab,bG p=ab]
abbrev Fx:dy:=kB aS (λp=>dS (gq p)) λp=>[bG p=ab]
def J3:dM X 153 Fx:=.ox λp h=>Ns p h
theorem J4(l:List cn)(x:cn):(lW l x).length=l.length+1:=by
 induction l with
 |nil=>simp[lW]
 |cons y r a=>simp only[lW];split<;>simp[a]
def xc(k:Int)(ps:List Bs):List cn:=ps.foldl (λl p=>lW l (gp k p,gq p)) []
theorem Ab(k:Int)(ps:List Bs):(xc k ps).length=ps.length:=by
 have h:∀(ps:List Bs) (a:List cn),(ps.foldl (λl p=>lW l (gp k p,gq p)) a).length=a.length+ps.length:=by
  intro ps;induction ps with
  |nil=>grind
  |cons p r b=>grind[J4]
 have:=h ps [];rw[jk,br]at this;exact this
def J5{k:Int}{ps:List Bs}(h:i<ps.length):xc k (ps.take (i+1))=lW (xc k (ps.take i)) (gp k (ps.getD i []),gq (ps.getD i [])):=by unfold xc;grind[bt]
abbrev pkB(no:Int)(l:List cn):bd:=.cells 43 [.c (.int .i64 no),.c (.sl ae 2 l.length (er.fn l))]
def GX(p:Bs):Ev X 200 [dS p] [] (dB (bG p)) []:=by
 refine Ev.bQ Tryz.func200 rfl λb=>?_;have a:bA X [(56,DU),(155,ND)]:=.cons GJ (.cons t155 .nil);by_cases h:1<=p.length/\p.length<=8
 .refine aR a [(6,ab)] rfl ?_ (AK.bo rfl ?_)
  .simp;omega
  .simp[bG,h.1,h.2]
 .refine aR a [(6,ae)] rfl ?_ (AK.bo rfl ?_)
  .simp;omega
  .have:bG p=ae:=by simp only[bG,<-Bool.decide_and,gL h,rb]
   simp[this]
abbrev Fz:dy:=kB aS (λp=>dB (bG p)) λ_=>[]
def NF:dM X 200 Fz:=.ox λp _=>GX p
def GY(p:Bs):Ev X 156 [dS p] [] (dS (gq p)) []:=by
 refine Ev.bQ Tryz.func156 rfl λb=>?_;have a:bA X [(200,Fz),(153,Fx)]:=.cons NF (.cons J3 .nil);cases h:bG p with
 |true=>exact aR a [(5,ae)] rfl (by simp[h]) (AK.bo rfl)
 |false=>exact aR a [(5,ab)] rfl (by simp[h]) (AK.bo rfl (by simp[gq,h]))
abbrev FB:dy:=kB aS (λp=>dS (gq p)) λ_=>[]
def NG:dM X 156 FB:=.ox λp _=>GY p
def GZ(p:Bs):(gq p).length<=8:=by
 unfold gq;split
 .rename_i h;simp only[bG,bS,bl]at h;grind[we]
 .simp
def BX(b:Bs):Ev X 115 [dS b] [] (zR (eO b)) []:=by
 refine Ev.bQ Tryz.func115 rfl λr=>?_;have p:=r.str 0 rfl;have k:bA X [(156,FB)]:=.cons NG .nil;refine bx rfl ar ?_;have fin:∀n,n<=b.length->strip (b.take n)=strip b->(n=0∨strip (b.take n)=b.take n)->b.take n=strip b:=λn a h d=>by
  rcases d with rfl|d
  .simpa[strip]using h
  grind
 have rest:∀n,n<=b.length->b.take n=strip b->eO b=if b.length<=8/\gq (strip b)=b/\n≠0 then aa (b.take n)else af:=λn a h=>by
  have t:=GZ (strip b);have o:n=0↔strip b=[]:=by grind[List.take_eq_nil_iff]
  unfold eO;rw[h];by_cases g:gq (strip b)=b
  .by_cases l:bG (strip b)=ab
   .have:n≠0:=λq=>by rw[o.1 q]at l;cases l
    grind
   .have q:n=0:=o.2 (by rw[gq,a9 l]at g;grind);grind
  grind
 refine AK.kp (S2:=Nat) 0 rfl rfl (λn=>n<=b.length/\b.take n=strip b) (λn=>[(0,dS b),(4,dI n)]) (λ_=>[]) 0 (λn=>n<=b.length/\strip (b.take n)=strip b) (λn:Nat=>[(0,dS b),(4,dI n)]) (λ_=>[]) (λn=>n) b.length rfl (by simp) rfl ar rfl ⟨by omega,by simp⟩ ?_ ?_
 .rintro out n ⟨a,c⟩;rcases n with _|n
  .refine aW [(9,ae),(15,ae)] rfl (by simp) (AK.leaveD rfl rfl ?_);exact out 0 ⟨a,fin 0 a c (.inl rfl)⟩ rfl (by simp) rfl ar
  have o:=vQ (s:=b) (n:=n) (by omega);have f:((n:Int)+1-1).toNat=n:=by omega
  by_cases d:b.getD n 0=46
  .refine aW [(9,ab),(15,ab)] rfl ?_ (AK.aQ n rfl ?_ ar ⟨by omega,?_⟩ (by omega))
   .have g:cw b n=46:=by unfold cw;rw[d];rfl
    simp[-aj,cz,f,g,bw];omega
   .simp
   grind
  .refine aW [(9,ab),(15,ae)] rfl ?_ (AK.leaveD rfl rfl ?_)
   .have g:cw b n≠46:=by unfold cw;intro e;exact d (pt.1 (by grind))
    simp[-aj,cz,f,g,bw];omega
   .exact out (n+1) ⟨a,fin _ a c (.inr (by grind))⟩ rfl (by simp) rfl ar
 rintro n ⟨a,m⟩;have i:=rest n a m;have j:rB b af (aa (n:Int))=strip b:=m▸rfl;have hi:((b.length:Int)<=8)↔b.length<=8:=by omega
 by_cases c1:b.length<=8
 .by_cases c2:gq (strip b)=b
  .by_cases c3:n=0
   .refine aR k [(21,ae),(29,ae),(32,ab)] rfl ?_ (AK.bo rfl ?_)
    .subst c3;simp only[au,j,c2];grind
    .simp[i,c3]
   .refine aR k [(21,ae),(29,ae),(32,ae)] rfl ?_ (AK.bo rfl ?_)
    .simp[j,hi,c1,c2,c3,a]
    .simp[i,j,m,c1,c2,c3]
  .refine aR k [(21,ae),(29,ab),(32,ab)] rfl ?_ (AK.bo rfl ?_)
   .simp[j,hi,c1,c2,a]
   .simp[i,c2]
 .refine aR k [(21,ab),(29,ab),(32,ab)] rfl ?_ (AK.bo rfl ?_)
  .simp;omega
  .simp[i,c1]
abbrev sV:dy:=kB aS (λb=>zR (eO b)) λ_=>[]
def yq:dM X 115 sV:=.ox λb _=>BX b
def G0(k:Int)(x:cn)(c:cB k=ab):Ev X 90 [dI k,W9 x] [] (dB (right k x)) []:=by
 refine Ev.bQ Tryz.func90 rfl λd=>?_;have b:bA X [(115,sV),(116,wm)]:=.cons yq (.cons wc .nil);cases a:eO x.2 with
 |none=>exact aR b [(14,ae)] rfl (by simp[a]) (AK.bo rfl (by simp[right,a]))
 |some p=>exact aR b [(14,ab)] rfl (by simp[a,c,vT a]) (AK.bo rfl (by simp[right,a]))
abbrev Ad:dy:=oa aI Sb (λk x=>dB (right k x)) λk _=>[cB k=ab]
def FC:dM X 90 Ad:=.qC λk x h=>G0 k x h
def NH(k:Int):Ev X 58 [dI k] [] (dB (cB k)) []:=by refine Ev.bQ Tryz.func58 rfl λb=>?_;have a:bA X [(56,DU)]:=.cons GJ .nil;exact bZ a rfl ar (AK.bo rfl (by simp[cB]))
abbrev BY:dy:=kB aI (λk=>dB (cB k)) λ_=>[]
def FD:dM X 58 BY:=.ox λk _=>NH k
abbrev NI(p:ba):bd:=.cells 43 [.c (.int .i64 p.1),.c (sP p)]
def BZ(k:Int)(p:ba)(n:Int):Ev X 158 [dI k,xa p,dI n] [] (zR (dt k p n)) []:=by
 refine Ev.bQ Tryz.func158 rfl λo=>?_;have c:bA X [(58,BY),(90,Ad),(115,sV)]:=.cons FD (.cons FC (.cons yq .nil));cases f:cB k with
 |false =>
  refine aR c [(11,ab)] rfl (by simp[f]) (AK.bo rfl ?_);have:dt k p n=af:=by unfold dt chunk;grind
  simp[this]
 |true =>
 have m:=o.O8 1 rfl 1 rfl;refine aR c [(11,ae)] rfl (by simp[f]) ?_;refine AK.bY 1 (λi=>i<=p.2.length/\p.2.find? (λx=>x.1==n)=(p.2.drop i).find? (λx=>x.1==n)) (λi:Nat=>[(0,dI k),(4,.e (.one (.ptr 0 0))),(2,dI n),(8,dI i)]) (λ_=>[NI p]) (λi=>p.2.length-i) 0 rfl (by simp) rfl (by simp) rfl ⟨by omega,rfl⟩ ?_;rintro i ⟨hi,b⟩;by_cases h:i<p.2.length
 .have j:p.2.getD i er.bR=fU p i:=rfl;have l:p.2.drop i=fU p i::p.2.drop (i+1):=by grind[List.drop_eq_getElem_cons]
  rw[l,List.find?_cons]at b;by_cases d:(fU p i).1=n
  .rw[show((fU p i).1==n)=ab by grind]at b;cases g:right k (fU p i)with
   |false =>
    have a:right k (n,(fU p i).2)=ae:=d▸g;refine aR c [(16,ab),(26,ab),(34,ab)] rfl ?_ (AK.eX (cd.zero rfl ?_))
    .simp[-aj,j,d,a,f,h]
    .have e:dt k p n=af:=by have:=qD (k:=k) (x:=fU p i) f;rw[g]at this;simp only[dt,b];simpa using this
     simp[e]
   |true =>
    have a:right k (n,(fU p i).2)=ab:=d▸g;refine aR c [(16,ab),(26,ab),(34,ae)] rfl ?_ (AK.eX (cd.zero rfl ?_))
    .simp[-aj,j,d,a,f,h]
    .have e:dt k p n=eO (fU p i).2:=by simp only[dt,b,chunk];unfold right at g;grind
     simp[-aj,e,j]
  .rw[show((fU p i).1==n)=ae by grind]at b;refine aR c [(16,ab),(26,ae)] rfl ?_ (AK.aQ (i+1) rfl (by simp) (by simp) ⟨h,b⟩ (by omega));simp[-aj,j,d,bw,h];omega
 .obtain rfl:i=p.2.length:=by omega
  refine aR c [(16,ae)] rfl (by simp) (AK.leaveD rfl rfl ?_);refine bZ c rfl ar (AK.bo rfl ?_);simp[dt,b]
abbrev FE:dy:=Fl aI (CK er) aI (λk p n=>zR (dt k p n)) λ_ _ _=>[]
def NJ:dM X 158 FE:=.LN λk p n _=>BZ k p n
theorem o7(k:Int)(p:ba):iX k p=(decide (1<=p.1/\p.1<=99)&&cB k&&decide (1<=p.2.length/\p.2.length<=4)&&(bh p.2.length).all (iy k p)):=by grind[sQ]
def G1{k:Int}{p:ba}(a:i≠0):iy k p i=(right k (fU p i)&&decide ((fU p (i-1)).1<(fU p i).1)):=by unfold iy;grind
def DY(k:Int)(p:ba):Ev X 55 [dI k,xa p] [] (dB (iX k p)) []:=by
 refine Ev.bQ Tryz.func55 rfl λn=>?_;have b:bA X [(56,DU),(58,BY),(90,Ad)]:=.cons GJ (.cons FD (.cons FC .nil));have l:=n.O8 1 rfl 1 rfl;rw[o7];by_cases c1:1<=p.1/\p.1<=99
 rotate_left
 .exact aR b [(10,ab),(14,ab),(21,ab)] rfl (by simp;omega) (AK.bo rfl (by simp[gL c1]))
 cases c:cB k
 .exact aR b [(10,ae),(14,ab),(21,ab)] rfl (by simp[c,c1]) (AK.bo rfl)
 by_cases c3:1<=p.2.length/\p.2.length<=4
 rotate_left
 .exact aR b [(10,ae),(14,ae),(21,ab)] rfl (by simp[c,c1];omega) (AK.bo rfl (by simp[gL c3]))
 refine aR b [(10,ae),(14,ae),(21,ae)] rfl (by simp[c,c1];omega) ?_;rw[dh c1,dh c3,fA,fA,fA];refine AK.bY 1 (λi=>i<=p.2.length/\∀j,j<i->iy k p j=ab) (λi:Nat=>[(0,dI k),(3,.e (.one (.ptr 0 0))),(5,dI i)]) (λ_=>[NI p]) (λi=>p.2.length-i) 0 rfl (by simp) rfl (by simp) rfl ⟨by omega,by omega⟩ ?_;rintro i ⟨hi,a⟩;by_cases h:i<p.2.length
 .have g:p.2.getD i er.bR=fU p i:=rfl;cases d:right k (fU p i)with
  |false =>
   refine aR b [(26,ab),(37,ab),(56,ab)] rfl ?_ (AK.eX (cd.zero rfl ?_))
   .simp[-aj,g,d,c,h]
   .rw[fV h (by simp only[iy,d,rb])];simp
  |true =>
   by_cases m:i=0
   .subst m;refine aR b [(26,ab),(37,ae),(40,ae),(56,ae)] rfl ?_ (AK.aQ 1 rfl (by simp) (by simp) ⟨h,gX a (by simp only[iy,d,fA];rfl)⟩ (by omega));simp[-aj,g,d,c,h,bw]
   have f:p.2.getD (i-1) er.bR=fU p (i-1):=rfl;have q:=G1 (k:=k) (p:=p) m;by_cases o:(fU p (i-1)).1<(fU p i).1
   .refine aR b [(26,ab),(37,ae),(40,ab),(54,ae),(56,ae)] rfl ?_ (AK.aQ (i+1) rfl (by simp) (by simp) ⟨h,gX a (by grind)⟩ (by omega));simp[-aj,g,f,d,c,h,o,bw];omega
   .refine aR b [(26,ab),(37,ae),(40,ab),(54,ab),(56,ab)] rfl ?_ (AK.eX (cd.zero rfl ?_))
    .simp[-aj,g,f,d,c,h,bw];omega
    .rw[fV h (by grind)];simp
 .obtain rfl:i=p.2.length:=by omega
  refine aR b [(26,ae)] rfl (by simp) (AK.leaveD rfl rfl ?_);exact bZ b rfl ar (AK.bo rfl (by simp[dg.2 a]))
abbrev B4:dy:=oa aI (CK er) (λk p=>dB (iX k p)) λ_ _=>[]
def Kg:dM X 55 B4:=.qC λk p _=>DY k p
def gI{l:List α}{d:α}(h:i<l.length):l.getD i d∈l:=by grind
def NK{l:List Int}{n:Int}:l.contains n=!(bh l.length).all λi=>!(l.getD i 0==n):=by rw[pv,iU,<-lX,dg,yU];grind[List.mem_iff_getElem]
def NL(l:List Int)(n:Int):Ev X 26 [cI.sl l,dI n] [] (dB (l.contains n)) []:=by
 refine Ev.bQ Tryz.func26 rfl λe=>?_;have c:=e.sl 0 rfl;refine bx rfl ar ?_;rw[NK];refine AK.jA (λi=>i<=l.length/\∀j,j<i->(!(l.getD j 0==n))=ab) (λi:Nat=>[(0,cI.sl l),(1,dI n),(5,dI i)]) (λ_=>[]) (λi=>l.length-i) 0 rfl (by simp) rfl ar ⟨by omega,by omega⟩ ?_;rintro i ⟨hi,a⟩;by_cases h:i<l.length
 .have d:l.getD i cI.bR=l.getD i 0:=rfl;by_cases b:l.getD i 0=n
  .refine aW [(9,ab),(17,ab)] rfl ?_ (AK.gU (cd.zero rfl ?_))
   .simp[-aj,d,b,h]
   .rw[fV h (by grind)];simp
  .refine aW [(9,ab),(17,ae)] rfl ?_ (AK.fK (i+1) rfl (by simp) rfl ar ⟨h,gX a (by grind)⟩ (by omega));simp[-aj,d,b,h,bw];omega
 .obtain rfl:i=l.length:=by omega
  refine aW [(9,ae)] rfl (by simp) (AK.leave rfl rfl ?_);exact bx rfl ar (AK.bo rfl (by rw[dg.2 a];simp))
abbrev Kh:dy:=oa (aL cI) aI (λl n=>dB (l.contains n)) λ_ _=>[]
def O9:dM X 26 Kh:=.qC λl n _=>NL l n
def DZ(k:Int)(ps:List ba)(n:Int):Ev X 117 [dI k,cP.sl ps,dI n] [] (zR (c6 k ps n)) []:=by
 refine Ev.bQ Tryz.func117 rfl λg=>?_;have f:=g.sl 1 rfl;have d:bA X [(158,FE)]:=.cons NJ .nil;refine bZ d rfl ar ?_;refine AK.jA (λi=>i<=ps.length/\c6 k ps n=c6 k (ps.drop i) n) (λi:Nat=>[(0,dI k),(1,cP.sl ps),(2,dI n),(8,dI i)]) (λ_=>[]) (λi=>ps.length-i) 0 rfl (by simp) rfl ar ⟨by omega,rfl⟩ ?_;rintro i ⟨hi,a⟩;by_cases h:i<ps.length
 .have c:ps.drop i=ps.getD i (0,[])::ps.drop (i+1):=by grind[List.drop_eq_getElem_cons]
  have e:((ps.getD i cP.bR).1,er.list (ps.getD i cP.bR).2.length (er.fn (ps.getD i cP.bR).2))=ps.getD i (0,[]):=by rw[er.list_fn];rfl
  rw[c,show c6 k (ps.getD i (0,[])::ps.drop (i+1)) n=_ from List.findSome?_cons]at a;cases b:dt k (ps.getD i (0,[])) n with
  |some q =>
   rw[b]at a;refine aR d [(14,ab),(27,ab)] rfl ?_ (AK.gU (cd.zero rfl ?_))
   .simp[-aj,e,b,h,er.aO]
   .simp[-aj,e,b,a]
  |none =>
   rw[b]at a;refine aR d [(14,ab),(27,ae)] rfl ?_ (AK.fK (i+1) rfl (by simp) rfl ar ⟨h,a⟩ (by omega));simp[-aj,e,b,h,bw,er.aO];omega
 .obtain rfl:i=ps.length:=by omega
  refine aW [(14,ae)] rfl (by simp) (AK.leave rfl rfl ?_);exact bx rfl ar (AK.bo rfl (by rw[a,qY];simp[c6]))
abbrev B5:dy:=Fl aI (aL cP) aI (λk ps n=>zR (c6 k ps n)) λ_ _ _=>[]
def Ki:dM X 117 B5:=.LN λk ps n _=>DZ k ps n
def Kj(a b:List Bs):Ev X 159 [cS.sl a,cS.sl b] [] (dB (a==b)) []:=by
 refine Ev.bQ Tryz.func159 rfl λg=>?_;have d:=g.sl 0 rfl;by_cases k:a.length=b.length
 rotate_left
 .have:(a==b)=ae:=fy.2 (by grind);exact aW [(10,ab)] rfl (by simp;omega) (AK.bo rfl (by simp[this]))
 refine aW [(10,ae)] rfl (by simp;omega) ?_;refine AK.jA (λi=>i<=a.length/\∀j,j<i->a.getD j []=b.getD j []) (λi:Nat=>[(0,cS.sl a),(1,cS.sl b),(5,dI i)]) (λ_=>[]) (λi=>a.length-i) 0 rfl (by simp) rfl ar ⟨by omega,by omega⟩ ?_;rintro i ⟨hi,e⟩;by_cases h:i<a.length
 .have f:∀l:List Bs,l.getD i cS.bR=l.getD i []:=λ_=>rfl;by_cases c:a.getD i []=b.getD i []
  .refine aW [(14,ab),(25,ae)] rfl ?_ (AK.fK (i+1) rfl (by simp) rfl ar ⟨h,λj m=>?_⟩ (by omega))
   .simp[-aj,f,c,bw];omega
   grind
  .refine aW [(14,ab),(25,ab)] rfl ?_ (AK.gU (cd.zero rfl ?_))
   .simp[-aj,f,c];omega
   .have:(a==b)=ae:=fy.2 (by grind);simp[this]
 .obtain rfl:i=a.length:=by omega
  have:a=b:=uk k λj c n=>by grind
  refine aW [(14,ae)] rfl (by simp) (AK.leave rfl rfl ?_);exact bx rfl ar (AK.bo rfl (by simp[this]))
def Rh:dM X 159 Nc:=.qC λa b _=>Kj a b
def tE(t:Bs):∀k f p,p∈fg t k f->p.length<=8
 |0,_,p,h=>by simp[fg]at h
 |k+1,f,p,h=>by
  simp only[fg]at h;split at h
  .rename_i a;rcases dK.1 h with rfl|h
   .grind [mX]
   .exact tE t k _ p h
  grind
def Ae{l:List Bs}{p:Bs}(h:p∈l)(b:8<p.length):fZ l=af:=by unfold fZ;rw[a9];intro a;simp only[bS,hO]at a;have:=tE l.flatten l.flatten.length 0 p (by rw[show fg l.flatten l.flatten.length 0=l from a.2];exact h);omega
def ub(l:List Bs)(i:Nat):(l.take i).flatten.length<=l.flatten.length:=by grind[List.take_append_drop]
def D1{l:List Bs}(h:40<(l.take i).flatten.length):fZ l=af:=by have:=ub l i;unfold fZ;rw[a9];intro a;simp only[bS,ef,bl]at a;omega
def Kk(l:List Bs):Ev X 118 [cS.sl l] [] (zR (fZ l)) []:=by
 refine Ev.bQ Tryz.func118 rfl λm=>?_;have j:=m.sl 0 rfl;have b:bA X [(111,NM),(147,Fw),(159,Nc)]:=.cons t111 (.cons JU (.cons Rh .nil));refine bZ b rfl ar ?_;refine AK.jA (λi=>i<=l.length/\(l.take i).flatten.length<=48) (λi:Nat=>[(0,cS.sl l),(4,dS (l.take i).flatten),(5,dI i)]) (λ_=>[]) (λi=>l.length-i) 0 rfl (by simp) rfl ar ⟨by omega,by simp⟩ ?_;rintro i ⟨hi,e⟩;by_cases h:i<l.length
 .have f:l.getD i cS.bR=l.getD i []:=rfl;have k:(l.take (i+1)).flatten=(l.take i).flatten++l.getD i []:=by grind[bt]
  by_cases a:(l.getD i []).length<=8
  .by_cases c:(l.take i).flatten.length<=40
   .refine aR b [(9,ab),(18,ae),(22,ae)] rfl ?_ (AK.fK (i+1) rfl ?_ rfl ar ⟨h,by grind⟩ (by omega))
    .simp[-aj,-List.length_flatten,f,bw];omega
    .simp only[au.cat,au,k,aH,aE];grind[cp.same]
   .refine aR b [(9,ab),(18,ae),(22,ab)] rfl ?_ (AK.gU (cd.zero rfl ?_))
    .simp[-aj,-List.length_flatten,f];omega
    .simp[D1 (l:=l) (i:=i) (by omega)]
  .refine aR b [(9,ab),(18,ab),(22,ab)] rfl ?_ (AK.gU (cd.zero rfl ?_))
   .simp[-aj,f];omega
   .simp[au,au.cat,Ae (gI (d:=[]) h) (by omega)]
 .obtain rfl:i=l.length:=by omega
  rw[cO]at e⊢;refine aR b [(9,ae)] rfl (by simp) (AK.leave rfl rfl ?_);have el:=cS.list_fn l;cases a:ef l.flatten with
  |false=>exact aR b [(32,ab),(38,ab)] rfl (by simp[a]) (AK.bo rfl (by simp[fZ,a]))
  |true =>
   have g:b6 l.flatten=ab:=by simp only[ef,bS]at a;exact a.2
   cases c:(pieces l.flatten==l)with
   |false =>
    refine aR b [(32,ae),(38,ab)] rfl ?_ (AK.bo rfl (by simp[fZ,c]));simp[-List.length_flatten,a,g,el,cS.list_fn,cS.aO,by simpa using c];omega
   |true =>
    refine aR b [(32,ae),(38,ae)] rfl ?_ (AK.bo rfl (by simp[fZ,a,c]));simp[-List.length_flatten,a,g,el,cS.list_fn,cS.aO,by simpa using c];omega
abbrev Kl:dy:=kB (aL cS) (λl=>zR (fZ l)) λ_=>[]
def Ri:dM X 118 Kl:=.ox λl _=>Kk l
abbrev Vw(s:cC):bd:=.cells 39 [.c (.int .i64 s.1),.c (.sl ae 2 s.2.length (cL.fn s.2))]
abbrev Km(k:Int)(ps:List ba)(ns:List Int):List Bs:=ns.map λn=>(c6 k ps n).getD []
def NN{k:Int}{ps:List ba}{ns:List Int}(h:j<ns.length):Km k ps (ns.take (j+1))=Km k ps (ns.take j)++[(c6 k ps (ns.getD j 0)).getD []]:=by grind[bt]
def B6{k:Int}{ps:List ba}{ns:List Int}(h:j<ns.length)(a:c6 k ps (ns.getD j 0)=af):dD k ps ns=af:=by unfold dD;rw[a9];grind
def Af{k:Int}{ps:List ba}{ns:List Int}(h:∀j,j<ns.length->(c6 k ps (ns.getD j 0)).isSome=ab):dD k ps ns=aa (Km k ps ns):=by unfold dD;rw[bn];grind[List.mem_iff_getElem]
def Ag(k:Int)(s:cC)(ps:List ba)(J:s.2.length<=4000000)(H:∀x∈s.2,x.2.length<=4000000):
  Ev X 91 [dI k,BH s,cP.sl ps] [] (QI ((cj k s ps).getD []) (cj k s ps).isSome) []:=by
 refine Ev.bQ Tryz.func91 rfl λK=>?_;have a:bA X [(58,BY),(117,B5),(118,Kl),(104,NO)]:=.cons FD (.cons Ki (.cons Ri (.cons t104 .nil)));cases w:cB k with
 |false =>
  refine aR a [(19,ab)] rfl ?_ (AK.bo rfl ?_)
  .simp[w]
  .simp[cj,w]
 |true =>
 refine aR a [(19,ae),(1000004,ab)] rfl (by simp[w]) ?_;refine AK.ix 8 110 2 rfl rfl ?_;refine bZ a rfl ar ?_;refine AK.bY 2 (λi=>i<=s.2.length/\∀j,j<i->(fileOf k ps (s.2.getD j ([],[]))).isSome=ab) (λi:Nat=>[(0,dI k),(2,cP.sl ps),(4,.e (.one (.ptr 0 0))),(8,.e (.one (.vec 1 2 (cZ k ps (s.2.take i)).length (cF.fn (cZ k ps (s.2.take i)))))),(9,dI i)]) (λi=>[Vw s,.vec 110 2 (cZ k ps (s.2.take i)).length (cF.fn (cZ k ps (s.2.take i)))]) (λi=>s.2.length-i) 0 rfl (by simp[cZ]) rfl (by simp[cZ]) rfl ⟨by omega,by omega⟩ ?_;rintro i ⟨hi,B⟩;by_cases h:i<s.2.length
 .have C:=H _ (gI (d:=([],[])) h);have f:=oX (k:=k) (ps:=ps) h;have z:(cZ k ps (s.2.take i)).length=i:=by simp[cZ];omega
  have c:s.2.getD (i:Int).toNat cL.bR=s.2.getD i ([],[]):=by grind
  have l:=oY (k:=k) (ps:=ps) h;generalize F:s.2.getD i ([],[])=x at C f c l;generalize cZ k ps (s.2.take i)=fs at *;refine aR a [(25,ab),(1000008,ab)] rfl (by simp;omega) ?_;refine AK.ix 10 9 1 rfl rfl ?_;refine bZ a rfl ar ?_;refine AK.bY 3 (λj=>j<=x.2.length/\∀q,q<j->(c6 k ps (x.2.getD q 0)).isSome=ab) (λj:Nat=>[(0,dI k),(2,cP.sl ps),(4,.e (.one (.ptr 0 0))),(8,.e (.one (.vec 1 2 fs.length (cF.fn fs)))),(9,dI i),(10,.e (.one (.vec 2 1 (Km k ps (x.2.take j)).length (cS.fn (Km k ps (x.2.take j)))))),(11,dI j)]) (λj=>[Vw s,.vec 110 2 fs.length (cF.fn fs),.vec 9 1 (Km k ps (x.2.take j)).length (cS.fn (Km k ps (x.2.take j)))]) (λj=>x.2.length-j) 0 rfl (by simp) rfl (by simp) rfl ⟨by omega,by omega⟩ ?_;rintro j ⟨I,A⟩;by_cases y:j<x.2.length
  .have b:x.2.getD (j:Int).toNat cI.bR=x.2.getD j 0:=by grind
   cases n:c6 k ps (x.2.getD j 0)with
   |none =>
    have e:fileOf k ps x=af:=by simp[fileOf,B6 y n]
    refine aR a [(37,ab),(56,ab)] rfl ?_ (AK.eX (AK.rI (cd.zero rfl ?_)))
    .simp only[au,c,b,n,cP.list_fn,cP.aO];grind
    .rw[l e];simp
   |some q =>
    have g:=NN (k:=k) (ps:=ps) y;rw[n]at g;have p:(Km k ps (x.2.take j)).length=j:=by grind
    have u:=cS.cr (Km k ps (x.2.take j)) q;refine aR a [(37,ab),(56,ae)] rfl ?_ (AK.aQ (j+1) rfl ?_ ?_ ⟨y,λr E=>?_⟩ (by omega))
    .simp only[au,c,b,n,cP.list_fn,cP.aO,p,bw,show i9.bytes=16 from rfl];grind
    .rw[g];simp only[au.cat,au,c,b,n,cP.list_fn,cv,e9,aH,aE];and_intros<;>first|exact cp.same|exact u|rfl|omega
    .rw[g];simp only[au.cat,au,c,b,n,cP.list_fn,cv,e9,aH,aE];and_intros<;>first|exact cp.same|exact u|rfl|omega
    grind
  .obtain rfl:j=x.2.length:=by omega
   have o:=Af A;rw[cO];have p:(Km k ps x.2).length=x.2.length:=by simp
   refine aR a [(37,ae)] rfl (by simp only[au,c];simp[h]) (AK.leaveD rfl rfl ?_);cases m:fZ (Km k ps x.2)with
   |none =>
    have e:fileOf k ps x=af:=by simp[fileOf,o,m]
    refine aR a [(68,ab)] rfl ?_ (AK.eX (cd.zero rfl ?_))
    .simp only[au,cS.list_fn,cS.aO,m];simp
    .rw[l e];simp
   |some t =>
    have e:fileOf k ps x=aa (x.1,t):=by simp[fileOf,o,m]
    rw[e]at f;have D:=cF.cr fs (x.1,t);refine aR a [(68,ae)] rfl ?_ (AK.aQ (i+1) rfl ?_ ?_ ⟨h,λr E=>?_⟩ (by omega))
    .simp only[au,c,cS.list_fn,cS.aO,m,z,bw,show i110.bytes=32 from rfl];grind
    .rw[f];simp only[au.cat,au,c,cS.list_fn,m,ga,cv,e9,aH,aE];and_intros<;>first|exact cp.same|exact D|rfl|omega
    .rw[f];simp only[au.cat,au,c,cS.list_fn,m,ga,cv,e9,aH,aE];and_intros<;>first|exact cp.same|exact D|rfl|omega
    grind
 .obtain rfl:i=s.2.length:=by omega
  rw[cO];have G:s.2.all (λx=>(fileOf k ps x).isSome)=ab:=List.all_eq_true.2 λx C=>by grind[List.mem_iff_getElem]
  refine aR a [(25,ae)] rfl (by simp) (AK.leaveD rfl rfl ?_);cases v:dq (cZ k ps s.2)with
  |false =>
   refine aR a [(83,ab)] rfl ?_ (AK.bo rfl ?_)
   .simp[cF.list_fn,cF.aO,v]
   .simp[cj,v]
  |true =>
   refine aR a [(83,ae)] rfl ?_ (AK.bo rfl ?_)
   .simp[cF.list_fn,cF.aO,v]
   .simp[cj,v,w,G]
abbrev wB:dy:=Fl aI (CK cL) (aL cP) (λk s ps=>QI ((cj k s ps).getD []) (cj k s ps).isSome) λ_ s _=>[s.2.length<=4000000,∀x∈s.2,x.2.length<=4000000]
def D2:dM X 91 wB:=.LN λk s ps h=>Ag k s ps h.1 h.2
abbrev rV:=Int×Int
def iH(h:rV):Bool:=decide (1<=h.1/\h.1<=2)&&decide (1<=h.2/\h.2<=20)
def o8(l:List rV):Bool:=(bh l.length).all (λi=>iH (l.getD i (0,0)))&&decide (l.length<=9)
abbrev Xw(h:rV):D:=.e (.agg [.c (.int .i64 h.1),.c (.int .i64 h.2)])
def G2(h:rV):Ev X 92 [Xw h] [] (dB (iH h)) []:=by
 refine Ev.bQ Tryz.func92 rfl λb=>?_;have a:bA X [(56,DU)]:=.cons GJ .nil;by_cases c:1<=h.1/\h.1<=2
 .exact aR a [(6,ab)] rfl (by simp[c]) (AK.bo rfl (by simp[iH,c]))
 .exact aR a [(6,ae)] rfl (by simp;omega) (AK.bo rfl (by simp only[au,iH,gL c];simp))
def G3(l:List rV):Ev X 59 [cH.sl l] [] (dB (o8 l)) []:=by
 refine Ev.bQ Tryz.func59 rfl λf=>?_;have d:=f.sl 0 rfl;have b:bA X [(92,kB Vt (λh=>dB (iH h)) λ_=>[])]:=.cons (.ox λh _=>G2 h) .nil;refine bZ b rfl ar ?_;unfold o8;refine AK.jA (λi=>i<=l.length/\∀j,j<i->iH (l.getD j (0,0))=ab) (λi:Nat=>[(0,cH.sl l),(3,dI i)]) (λ_=>[]) (λi=>l.length-i) 0 rfl (by simp) rfl ar ⟨by omega,by omega⟩ ?_;rintro i ⟨hi,a⟩;by_cases h:i<l.length
 .have e:l.getD i cH.bR=l.getD i (0,0):=rfl;cases c:iH (l.getD i (0,0))with
  |false =>
   refine aR b [(7,ab),(15,ab)] rfl ?_ (AK.gU (cd.zero rfl ?_))
   .simp[-aj,e,c,h]
   .rw[fV h c];simp
  |true =>
   refine aR b [(7,ab),(15,ae)] rfl ?_ (AK.fK (i+1) rfl (by simp) rfl ar ⟨h,gX a c⟩ (by omega));simp[-aj,e,c,h,bw];omega
 .obtain rfl:i=l.length:=by omega
  refine aR b [(7,ae)] rfl (by simp) (AK.leave rfl rfl ?_);exact bZ b rfl ar (AK.bo rfl (by rw[dg.2 a];simp;omega))
abbrev uH:dy:=kB (aL cH) (λl=>dB (o8 l)) λ_=>[]
def NP:dM X 59 uH:=.ox λl _=>G3 l
def bC(ps:List ba):List Int:=ps.flatMap λp=>p.2.map (·.1)
def xu(f:α->Int)(d:α)(l:List α)(i:Nat):Bool:=i==0||decide (f (l.getD (i-1) d)<f (l.getD i d))
def lN(k:Int)(ps:List ba)(i:Nat):Bool:=iX k (ps.getD i (0,[]))&&xu (·.1) (0,[]) ps i
def jG(k:Int)(s:bk)(i:Nat):Bool:=decide (1<=(s.2.1.getD i (0,[])).1/\(s.2.1.getD i (0,[])).1<=20)&&xu (·.1) (0,[]) s.2.1 i&&(cj k (s.2.1.getD i (0,[])) s.1).isSome
def fN(k:Int)(s:bk):Bool:=(bh s.1.length).all (lN k s.1)&&decide (bC s.1).Nodup&&(bh s.2.1.length).all (jG k s)&&cB k&&o8 s.2.2&&decide (s.1.length<=20)
def wC{ps:List ba}(h:i<ps.length):bC (ps.take (i+1))=bC (ps.take i)++(ps.getD i (0,[])).2.map (·.1):=by rw[bt h (0,[])];simp[bC]
def G4{ps:List ba}(h:¬(bC (ps.take i)).Nodup):¬(bC ps).Nodup:=λa=>h (by
 have:bC ps=bC (ps.take i)++bC (ps.drop i):=by unfold bC;grind[List.take_append_drop]
 grind)
theorem BS{s r:Bs}(h:b6 s=ab)(a:∀b∈r,b∈s):b6 r=ab:=by unfold b6 at h⊢;grind
def wo{t:Bs}(b:b6 t=ab):∀k f,∀p∈fg t k f,bG p=ab
 |0,_,p,a=>by simp[fg]at a
 |k+1,f,p,a=>by
  simp only[fg]at a;split at a
  .rename_i h;have c:=mX t f h;rcases dK.1 a with rfl|a
   .have d:((t.drop f).take (cutAt t f-f)).length=cutAt t f-f:=by grind
    simp only[bG,bS,bl];grind[BS]
   .exact wo b k _ p a
  grind
def sS{t:Bs}(a:b6 t=ab):∀p∈pieces t,bG p=ab:=wo a _ _
def tB(t:Bs):∀k f,(fg t k f).length<=k
 |0,_=>aZ _
 |k+1,f=>by
  simp only[fg];split
  .have:=tB t k (cutAt t f);grind
  .simp
def nL(t:Bs):(pieces t).length<=t.length:=tB t _ _
def jZ(t:List bz):List Bs:=t.flatMap λf=>pieces f.2
def GP{t:List bz}(h:i<t.length):jZ (t.take (i+1))=jZ (t.take i)++pieces (t.getD i ([],[])).2:=by rw[bt h ([],[])];simp[jZ]
def NA(t:List bz)(i:Nat):(jZ (t.take i)).length<=(jZ t).length:=by
 have h:jZ t=jZ (t.take i)++jZ (t.drop i):=by unfold jZ;grind[List.take_append_drop]
 grind
def yg(k:Int)(l:List dw)(ps:List Bs):∀a:List Bs,(ps.foldl (m0 k l) a).length<=a.length+ps.length:=by
 induction ps with
 |nil=>grind
 |cons p r b =>
  intro a;have d:=b (m0 k l a p);have c:(m0 k l a p).length<=a.length+1:=by unfold m0;split<;>simp
  grind
abbrev J6:dy:=oa (aL ou) aI (λl n=>dI (tz l n)) λl _=>[l.length<=4000000]
def Q3:dM X 148 J6:=.qC λl n h=>JM l n h
abbrev O5:dy:=oa (aL cS) aS (λl p=>dB (l.contains p)) λl _=>[l.length<=4000000]
def Uh:dM X 149 O5:=.qC λl p h=>Nq l p h
abbrev YZ(a:List Bs):D:=.e (.one (.vec 0 1 a.length (cS.fn a)))
structure rO(t:List bz):Prop where
 len:t.length<=4000000
 tZ:∀f∈t,b6 f.2=ab/\f.2.length<=4000000
 all:(jZ t).length<=100000
def JX(k:Int)(t:List bz)(l:List dw)(s:cB k=ab)(q:rO t)(E:l.length<=4000000):Ev X 106 [dI k,cF.sl t,ou.sl l] [] (cS.sl (jE k t l)) []:=by
 refine Ev.bQ Tryz.func106 rfl λD=>?_;have c:bA X [(147,Fw),(116,wm),(148,J6),(149,O5)]:=.cons JU (.cons wc (.cons Q3 (.cons Uh .nil)));refine bq c [(1000002,ab)] rfl ar ?_;refine AK.ix 7 9 1 rfl rfl ?_;refine cJ c rfl ar ?_;refine AK.bY 1 (λi=>i<=t.length) (λi:Nat=>[(0,dI k),(1,cF.sl t),(2,ou.sl l),(7,YZ ((jZ (t.take i)).foldl (m0 k l) [])),(8,dI i)]) (λi=>[.vec 9 1 ((jZ (t.take i)).foldl (m0 k l) []).length (cS.fn ((jZ (t.take i)).foldl (m0 k l) []))]) (λi=>t.length-i) 0 rfl ?_ rfl ?_ rfl (by omega) ?_
 .simp[jZ]
 .simp[jZ]
 intro i hi;by_cases h:i<t.length
 .have y:t.getD (i:Int).toNat cF.bR=t.getD i ([],[]):=by grind
  have n:t.getD i ([],[])∈t:=by grind
  obtain⟨z,q2⟩:=q.tZ _ n;have d:=GP h;have o:=NA t (i+1);have v:=q.all;have A:=q.len;have u:=sS z;generalize t.getD i ([],[])=f at *;rw[d,cv]at o;refine bq c [(15,ab)] rfl ?_ ?_
  .simp only[au,y,z,bl,aH,aE];and_intros<;>omega
  rw[y];refine AK.bY 1 (λj=>j<=(pieces f.2).length) (λj:Nat=>[(0,dI k),(1,cF.sl t),(2,ou.sl l),(7,YZ ((jZ (t.take i)++(pieces f.2).take j).foldl (m0 k l) [])),(8,dI i),(9,cS.sl (pieces f.2)),(10,dI j)]) (λj=>[.vec 9 1 ((jZ (t.take i)++(pieces f.2).take j).foldl (m0 k l) []).length (cS.fn ((jZ (t.take i)++(pieces f.2).take j).foldl (m0 k l) []))]) (λj=>(pieces f.2).length-j) 0 rfl ?_ rfl ?_ rfl (by omega) ?_
  .simp
  .simp
  intro j C;have r:=yg k l (jZ (t.take i)++(pieces f.2).take j) [];simp only[jk,cv,List.length_take]at r;by_cases B:j<(pieces f.2).length
  .have b:(pieces f.2).getD (j:Int).toNat cS.bR=(pieces f.2).getD j []:=by grind
   have e:bG ((pieces f.2).getD j [])=ab:=u _ (by grind);have a:(jZ (t.take i)++(pieces f.2).take (j+1)).foldl (m0 k l) []=m0 k l ((jZ (t.take i)++(pieces f.2).take j).foldl (m0 k l) []) ((pieces f.2).getD j []):=by grind[bt]
   generalize(jZ (t.take i)++(pieces f.2).take j).foldl (m0 k l) []=out at *;generalize(pieces f.2).getD j []=p at *;have x:=cS.cr out p;by_cases g:tz l (gp k p)=0
   .cases w:out.contains p with
    |true =>
     rw[m0,a9 (by grind)]at a;refine bq c [(27,ab),(38,ab),(45,ab)] rfl ?_ (AK.aQ (j+1) rfl ?_ ?_ ?_ ?_)
     .simp only[au,b,s,e,g,w,bw,cS.list_fn,ou.list_fn,jQ,bl,aH,aE];and_intros<;>first|exact cS.aO _|exact ou.aO _|omega
     .rw[a];simp
     .rw[a];simp
     .grind
     .omega
    |false =>
     rw[m0,bn (by grind)]at a;refine bq c [(27,ab),(38,ab),(45,ae)] rfl ?_ (AK.aQ (j+1) rfl ?_ ?_ ?_ ?_)
     .simp only[au,b,s,e,g,w,bw,show i9.bytes=16 from rfl,cS.list_fn,ou.list_fn,jQ,bl,aH,aE];and_intros<;>first|exact cS.aO _|exact ou.aO _|omega
     .rw[a];simp only[au.cat,au,b,cv,gb,jk,aH,aE];and_intros<;>first|exactλ_ _=>rfl|exact x|rfl|omega
     .rw[a];simp only[au.cat,au,b,cv,gb,jk,aH,aE];and_intros<;>first|exact x|rfl|omega
     .grind
     .omega
   .rw[m0,a9 (by grind)]at a;refine bq c [(27,ab),(38,ae)] rfl ?_ (AK.aQ (j+1) rfl ?_ ?_ ?_ ?_)
    .simp only[au,b,s,e,bw,ou.list_fn,fy,cR,g,oz,bl,aH,aE];and_intros<;>first|exact ou.aO _|omega
    .rw[a];simp
    .rw[a];simp
    .grind
    .omega
  .have m:j=(pieces f.2).length:=by omega
   refine bq c [(27,ae)] rfl (by simp only[au,b7];omega) (AK.leaveD rfl rfl ?_);refine cJ c rfl ?_ (AK.aQ (i+1) rfl ?_ ?_ ?_ ?_)
   .simp only[au,bw];omega
   .rw[d,m,cO];simp
   .rw[d,m,cO];simp
   .grind
   .omega
 .obtain rfl:i=t.length:=by omega
  rw[cO];refine bq c [(15,ae)] rfl (by simp) (AK.leaveD rfl rfl ?_);refine cJ c rfl ar (AK.bo rfl ?_);simp[jE,jZ]
abbrev rR(k:Int)(ps:List Bs):List Int:=ps.map (gp k)
abbrev wq(k:Int)(t:List bz):List gz:=t.map (wu k)
abbrev O6(no:Int)(ls:List gz):List bd:=[.cells 39 [.c (.int .i64 0),.c (.sl ab 0 0 λ_=>[])],.cells 39 [.c (.int .i64 no),.vec 2 2 ls.length (cL.fn ls)],.vec 95 2 ls.length (cL.fn ls)]
def Nu(no k:Int)(t:List bz)(x:cB k=ab)(r:rO t):Ev X 109 [dI no,dI k,cF.sl t] [] (BH (kM no k t)) []:=by
 refine Ev.vK tok Tryz.func109 rfl rfl rfl λA=>?_;have a:bA X [(147,Fw),(116,wm)]:=.cons JU (.cons wc .nil);refine bq a [(1000002,ab)] rfl ar ?_;refine AK.gf 1 1 95 2 (cL.fn []) rfl rfl ?_;refine cJ a rfl ar ?_;refine AK.bY 3 (λi=>i<=t.length) (λi:Nat=>[(1,dI k),(2,cF.sl t),(6,.e (.one (.ptr 0 0))),(7,.e (.one (.ptr 1 0))),(8,dI i)]) (λi=>O6 no (wq k (t.take i))) (λi=>t.length-i) 0 rfl ?_ rfl ?_ rfl (by omega) ?_
 .simp
 .simp
 intro i hi;by_cases h:i<t.length
 .have o:t.getD (i:Int).toNat cF.bR=t.getD i ([],[]):=by grind
  have g:t.getD i ([],[])∈t:=by grind
  obtain⟨s,q2⟩:=r.tZ _ g;have v:=r.len;have m:=sS s;have w:=nL (t.getD i ([],[])).2;have d:wq k (t.take (i+1))=wq k (t.take i)++[wu k (t.getD i ([],[]))]:=by grind[bt]
  have u:(wq k (t.take i)).length=i:=by grind
  generalize t.getD i ([],[])=f at *;generalize wq k (t.take i)=ls at *;refine bq a [(18,ab),(1000007,ab)] rfl ?_ ?_
  .simp only[au,o,s,bl,aH,aE];and_intros<;>omega
  rw[o];refine AK.ix 10 3 1 rfl rfl ?_;refine cJ a rfl ar ?_;refine AK.bY 4 (λj=>j<=(pieces f.2).length) (λj:Nat=>[(1,dI k),(2,cF.sl t),(6,.e (.one (.ptr 0 0))),(7,.e (.one (.ptr 1 0))),(8,dI i),(9,cS.sl (pieces f.2)),(10,.e (.one (.vec 3 1 j (cI.fn (rR k ((pieces f.2).take j)))))),(11,dI j)]) (λj=>O6 no ls++[.vec 3 1 j (cI.fn (rR k ((pieces f.2).take j)))]) (λj=>(pieces f.2).length-j) 0 rfl ?_ rfl ?_ rfl (by omega) ?_
  .simp
  .simp
  intro j q;by_cases z:j<(pieces f.2).length
  .have b:(pieces f.2).getD (j:Int).toNat cS.bR=(pieces f.2).getD j []:=by grind
   have n:bG ((pieces f.2).getD j [])=ab:=m _ (by grind);have c:=cI.cr (rR k ((pieces f.2).take j)) (gp k ((pieces f.2).getD j []));rw[show(rR k ((pieces f.2).take j)).length=j by grind,show rR k ((pieces f.2).take j)++[gp k ((pieces f.2).getD j [])]=rR k ((pieces f.2).take (j+1)) by grind[bt]]at c;refine bq a [(31,ab)] rfl ?_ (AK.aQ (j+1) rfl ?_ ?_ ?_ ?_)
   .simp only[au,b,x,n,bw,show i3.bytes=8 from rfl,bl,aH,aE];and_intros<;>omega
   .simp only[au.cat,au,b,aH,aE];and_intros<;>first|exactλ_ _=>rfl|exact c|rfl|omega
   .simp only[au.cat,au,b,aH,aE];and_intros<;>first|exactλ_ _=>rfl|exact c|rfl|omega
   .grind
   .omega
  .have l:j=(pieces f.2).length:=by omega
   rw[l,cO];have c:=cL.cr ls (wu k f);have p:ls.length+1=(ls++[wu k f]).length:=by simp
   have y:cL.enc (wu k f)=[C.str f.1,C.sl ae 1 (pieces f.2).length (cI.fn (rR k (pieces f.2)))]:=by show[C.str f.1,C.sl ae 1 (rR k (pieces f.2)).length (cI.fn (rR k (pieces f.2)))]=_;grind
   rw[y,<-d]at c;rw[<-d]at p;refine bq a [(31,ae)] rfl (by simp only[au,b7];omega) (AK.leaveD rfl rfl ?_);refine cJ a rfl ?_ (AK.aQ (i+1) rfl ?_ ?_ ?_ ?_)
   .simp only[au,bw,show i95.bytes=40 from rfl,aH,aE];and_intros<;>omega
   .simp
   .simp only[au.cat,au,o,aH,aE];and_intros<;>first|exact cp.same|exact c|exact p|rfl
   .grind
   .omega
 .obtain rfl:i=t.length:=by omega
  rw[cO];refine bq a [(18,ae)] rfl (by simp) (AK.leaveD rfl rfl ?_);refine cJ a rfl ar ?_;refine AK.lH () [] rfl rfl rfl rfl rfl rfl rfl rfl ?_ rfl rfl rfl rfl (λj q=>absurd q (by simp));simp[kM]
def m7(f g:Nat->List C):cy 0 f g=g:=by funext i;simp[cy]
abbrev qN(s:bk):bd:=.cells 27 [.c (.sl ae 2 s.1.length (cP.fn s.1)),.c (.sl ae 2 s.2.1.length (eG.fn s.2.1)),.c (.sl ae 2 s.2.2.length (cH.fn s.2.2))]
def J7{a b:Int}(m:Int)(h:o.op=.call {callee:=.builtin .max,args:=#[x,y],argTypes:=jJ})(l:η x=dI a)(n:η y=dI b)(q:max a b=m)(k:bw .i64 m):bD ag o η σ (dI m) σ:=by
 refine .quiet λs j p c=>?_;have d:=c x;have g:=c y;rw[l]at d;rw[n]at g;replace d:=fH d;replace g:=fH g;generalize i:j x=vx at d;generalize f:j y=vy at g;cases d;cases g;have e:(if a<b then b else a)=m:=by grind
 exact⟨.int .i64 m,by simp[ak,h,resolve,invoke,builtin,i,f,Builtin.max_,Builtin.max2,e],.int k,by simp[ak,h,resolve,invoke,builtin,i,f,Builtin.max_,Builtin.max2]⟩
def gh(s:bk):Int:=if s.1.length=0 then 1 else(s.1.getD (s.1.length-1) (0,[])).1+1
def qi(l:List (Int×Int)):Int:=l.foldl (λm h=>max m (h.2+1)) 1
def gF(s:bk):Int:=if s.2.1.length=0 then qi s.2.2 else max (qi s.2.2) ((s.2.1.getD (s.2.1.length-1) (0,[])).1+1)
structure GQ(st:bk):Prop where
 p:∀x∈st.1,-4000000<=x.1/\x.1<=4000000
 s:∀x∈st.2.1,-4000000<=x.1/\x.1<=4000000
 h:∀x∈st.2.2,-4000000<=x.2/\x.2<=4000000
def rS(l:List (Int×Int))(h:∀x∈l,-4000000<=x.2/\x.2<=4000000):1<=qi l/\qi l<=4000001:=by
 have:∀(l:List (Int×Int)) (m:Int),(∀x∈l,-4000000<=x.2/\x.2<=4000000)->1<=m->m<=4000001->1<=l.foldl (λm h=>max m (h.2+1)) m/\l.foldl (λm h=>max m (h.2+1)) m<=4000001:=by
  intro l;induction l with
  |nil=>grind
  |cons x r a =>
   grind
 exact this l 1 h (by omega) (by omega)
def DX{l:List (Int×Int)}(h:i<l.length):qi (l.take (i+1))=max (qi (l.take i)) ((l.getD i (0,0)).2+1):=by unfold qi;grind[bt]
def iv{l:List α}(h:i<l.length)(d:α):l.getD i d∈l:=by grind
def GR(s:bk)(d:iM s)(b:GQ s):Ev X 105 [qg s] [] (.fw [.one (.c (.int .i64 (gh s))),.one (.c (.int .i64 (gF s)))]) []:=by
 refine Ev.bQ Tryz.func105 rfl λo=>?_;have j:=d.p;have g:=d.sn;have l:=d.h;apply AK.join [(1,.e (.one (.ptr 0 0))),(4,dI (gh s)),(5,dI 1)] [qN s]
 .intro out;by_cases h:s.1.length=0
  .refine bF [(10,ae),(1000005,ab)] rfl (by simp only[au,b7];omega) ?_;exact out _ _ rfl (by simp[gh,h])
  .have f:=b.p _ (iv (show s.1.length-1<s.1.length by omega) (0,[]));have a:s.1.getD ((s.1.length:Int)-1).toNat cP.bR=s.1.getD (s.1.length-1) (0,[]):=by rw[show((s.1.length:Int)-1).toNat=s.1.length-1 by omega];rfl
   refine bF [(10,ab),(1000005,ab)] rfl ?_ ?_
   .simp only[au,a,bw,bl,aH,aE];and_intros<;>omega
   exact out _ _ rfl (by simp only[au.cat,au,gh,a9 h,a,aH,aE])
 refine c9 rfl ar ?_;refine AK.bY 1 (λi=>i<=s.2.2.length) (λi:Nat=>[(1,.e (.one (.ptr 0 0))),(4,dI (gh s)),(5,dI (qi (s.2.2.take i))),(6,dI i)]) (λi=>[qN s]) (λi=>s.2.2.length-i) 0 rfl ?_ rfl ?_ rfl (by omega) ?_
 .simp[qi]
 .simp
 intro i hi;by_cases h:i<s.2.2.length
 .have f:=b.h _ (iv h (0,0));have m:=rS (s.2.2.take i) λx n=>b.h x (ji n);have a:s.2.2.getD (i:Int).toNat cH.bR=s.2.2.getD i (0,0):=by grind
  have k:=DX h;refine bF [(25,ab)] rfl ?_ ?_
  .simp only[au,a,bw,bl,aH,aE];and_intros<;>omega
  rw[a];refine AK.law (J7 (qi (s.2.2.take (i+1))) rfl rfl rfl k.symm (by simp only[bw];omega)) rfl rfl ?_;refine c9 rfl ?_ (AK.aQ (i+1) rfl ?_ ?_ ?_ ?_)
  .simp only[au,bw];omega
  .simp
  .simp
  .grind
  .omega
 obtain rfl:i=s.2.2.length:=by omega
 rw[cO];refine bF [(25,ae)] rfl (by simp) (AK.leaveD rfl rfl ?_);have m:=rS s.2.2 b.h;by_cases h:s.2.1.length=0
 .refine bF [(40,ae)] rfl (by simp only[au,b7];omega) (AK.bo rfl ?_);simp[gF,h]
 .have f:=b.s _ (iv (show s.2.1.length-1<s.2.1.length by omega) (0,[]));have a:s.2.1.getD ((s.2.1.length:Int)-1).toNat eG.bR=s.2.1.getD (s.2.1.length-1) (0,[]):=by rw[show((s.2.1.length:Int)-1).toNat=s.2.1.length-1 by omega];rfl
  refine bF [(40,ab)] rfl ?_ ?_
  .simp only[au,a,bw,bl,aH,aE];and_intros<;>omega
  rw[a];refine AK.law (J7 (gF s) rfl rfl rfl (by rw[gF,a9 h]) (by rw[gF,a9 h];simp only[bw];omega)) rfl rfl ?_;exact c9 rfl ar (AK.bo rfl)
abbrev Q4(s:bk)(i:Nat)(p:List ba)(j:Nat)(q:List cC):List bd:=[qN s,.cells 27 [g6,g6,g6],.vec 101 2 s.2.2.length (cH.fn s.2.2),.cells 27 [.vec 4 2 i (cP.fn p),.vec 5 2 j (eG.fn q),.vec 2 2 s.2.2.length (cH.fn s.2.2)],.vec 43 2 i (cP.fn p),.vec 39 2 j (eG.fn q)]
def wv(s:bk)(r:s.1.length<=4000000)(g:∀p∈s.1,p.2.length<=4000000)(t:s.2.1.length<=4000000)(f:mE s)(n:s.2.2.length<=4000000):
  Ev X 25 [qg s] [] (.e (.agg [.vec 0 2 s.1.length (cP.fn s.1),.vec 1 2 s.2.1.length (eG.fn s.2.1),.vec 2 2 s.2.2.length (cH.fn s.2.2)])) [.vec 43 2 s.1.length (cP.fn s.1),.vec 39 2 s.2.1.length (eG.fn s.2.1),.vec 101 2 s.2.2.length (cH.fn s.2.2)]:=by
 refine Ev.vK tok Tryz.func25 rfl rfl rfl λo=>?_;refine bF [(1000002,ab)] rfl ?_ ?_
 .simp only[au,show i101.bytes=16 from rfl,aH,aE,true_or];grind
 refine AK.gf 3 0 43 2 (cP.fn []) rfl rfl ?_;refine AK.gf 3 1 39 2 (eG.fn []) rfl rfl ?_;refine c9 rfl ar ?_;refine AK.bY 6 (λi=>i<=s.1.length) (λi:Nat=>[(1,.e (.one (.ptr 0 0))),(2,.e (.one (.ptr 1 0))),(3,.e (.one (.ptr 3 0))),(4,dI i)]) (λi=>Q4 s i (s.1.take i) 0 []) (λi=>s.1.length-i) 0 rfl ?_ rfl ?_ rfl (by omega) ?_
 .simp
 .simp[cp,m7]
 intro i hi;by_cases h:i<s.1.length
 .have d:s.1.getD i (0,[])∈s.1:=by grind
  have a:s.1.getD (i:Int).toNat cP.bR=s.1.getD i (0,[]):=by grind
  have q:=g _ d;refine bF [(20,ab),(2000038,ab)] rfl ?_ (AK.aQ (i+1) rfl ?_ ?_ ?_ ?_)
  .simp only[au,a,bw,show i43.bytes=32 from rfl,show i68.bytes=24 from rfl,bl,true_or,aH,aE];and_intros<;>omega
  .simp
  .have e:=cP.ma s.1 h (0,[]);simp only[au.cat,au,a,m7,br,aE,aH];and_intros<;>first|exactλ_ _=>rfl|exact e|rfl|omega
  .grind
  .omega
 obtain rfl:i=s.1.length:=by omega
 rw[cO];refine bF [(20,ae)] rfl (by simp) (AK.leaveD rfl rfl ?_);refine c9 rfl ar ?_;refine AK.bY 6 (λi=>i<=s.2.1.length) (λi:Nat=>[(1,.e (.one (.ptr 0 0))),(2,.e (.one (.ptr 1 0))),(3,.e (.one (.ptr 3 0))),(5,dI i)]) (λi=>Q4 s s.1.length s.1 i (s.2.1.take i)) (λi=>s.2.1.length-i) 0 rfl ?_ rfl ?_ rfl (by omega) ?_
 .simp
 .simp[cp]
 intro i hi;by_cases h:i<s.2.1.length
 .have d:s.2.1.getD i (0,[])∈s.2.1:=by grind
  have a:s.2.1.getD (i:Int).toNat eG.bR=s.2.1.getD i (0,[]):=by grind
  have q:=f _ d;have e:=eG.ma s.2.1 h (0,[]);generalize s.2.1.getD i (0,[])=x at *;refine bF [(47,ab),(1000010,ab)] rfl ?_ ?_
  .simp only[au,a,bl,true_or,aH,aE];and_intros<;>omega
  rw[a];refine AK.gf 6 1 95 2 (cL.fn []) rfl rfl ?_;refine c9 rfl ar ?_;refine AK.bY 8 (λj=>j<=x.2.length) (λj:Nat=>[(1,.e (.one (.ptr 0 0))),(2,.e (.one (.ptr 1 0))),(3,.e (.one (.ptr 3 0))),(5,dI i),(6,.e (.one (.ptr 6 0))),(7,dI j)]) (λj=>Q4 s s.1.length s.1 i (s.2.1.take i)++[.cells 39 [.c (.int .i64 x.1),.vec 7 2 j (cL.fn (x.2.take j))],.vec 95 2 j (cL.fn (x.2.take j))]) (λj=>x.2.length-j) 0 rfl ?_ rfl ?_ rfl (by omega) ?_
  .simp
  .simp[cp]
  intro j k;by_cases l:j<x.2.length
  .have b:x.2.getD (j:Int).toNat cL.bR=x.2.getD j ([],[]):=by grind
   have u:=q.2 (x.2.getD j ([],[])) (by grind);have m:=cL.ma x.2 l ([],[]);refine bF [(66,ab),(2000085,ab)] rfl ?_ (AK.aQ (j+1) rfl ?_ ?_ ?_ ?_)
   .simp only[au,a,b,bw,show i95.bytes=40 from rfl,show i3.bytes=8 from rfl,bl,true_or,aH,aE];and_intros<;>omega
   .simp
   .simp only[au.cat,au,a,b,m7,br,aE,aH];and_intros<;>first|exactλ_ _=>rfl|exact m|rfl
   .grind
   .omega
  obtain rfl:j=x.2.length:=by omega
  rw[cO];refine bF [(66,ae)] rfl ?_ (AK.leaveD rfl rfl ?_)
  .simp only[au,a,b7];and_intros<;>omega
  refine c9 rfl ?_ (AK.aQ (i+1) rfl ?_ ?_ ?_ ?_)
  .simp only[au,a,bw,show i39.bytes=32 from rfl,aH,aE];and_intros<;>omega
  .simp
  .simp only[au.cat,au,aE,aH];and_intros<;>first|exactλ_ _=>rfl|exact e|rfl|omega
  .grind
  .omega
 obtain rfl:i=s.2.1.length:=by omega
 rw[cO];refine bF [(47,ae)] rfl (by simp) (AK.leaveD rfl rfl ?_);refine c9 rfl ar ?_;refine AK.lH () [4,5,2] rfl rfl rfl rfl rfl rfl rfl rfl ?_ rfl rfl rfl rfl (λj k=>absurd k (by simp))
 .simp
def JV(a b:Nat):min (a:Int) (b:Int)=((min a b:Nat):Int):=by grind
def gO(k:Int):Nat->Int->List Bs->List ba
 |0,_,_=>[]
 |f+1,no,ps=>if 0<ps.length then o0 no k (ps.take 4)::gO k f (no+1) (ps.drop 4)else[]
def yf(k:Int)(s:bk)(t:List bz):List ba:=gO k (jE k t (indexOf s.1)).length (gh s) (jE k t (indexOf s.1))
def tA(k:Int)(s:bk)(t:List bz):Bool:=decide (20<s.1.length+(yf k s t).length)||(decide (99<gh s+(yf k s t).length-1)||(decide (20<gF s)||decide (9<=s.2.2.length)))
def gV(k:Int)(s:bk)(by_:Int)(t:List bz):bk:=(s.1++yf k s t,s.2.1++[kM (gF s) k t],s.2.2++[(by_,gF s)])
theorem wh(k:Int):∀f no ps,(gO k f no ps).length<=f
 |0,_,_=>aZ _
 |f+1,no,ps=>by
  simp only[gO];split
  .have:=wh k f (no+1) (ps.drop 4);grind
  .simp
abbrev O1:dy:=Fl aI aI (aL cF) (λno k t=>BH (kM no k t)) λ_ k t=>[cB k=ab,rO t]
def T9:dM X 109 O1:=.LN λno k t h=>Nu no k t h.1 h.2
abbrev JW:dy:=Fl aI (aL cF) (aL ou) (λk t l=>cS.sl (jE k t l)) λk t l=>[cB k=ab,rO t,l.length<=4000000]
def QZ:dM X 106 JW:=.LN λk t l h=>JX k t l h.1 h.2.1 h.2.2
def wi{k:Int}{t:List bz}{l:List dw}(c:rO t):(∀p∈jE k t l,bG p=ab)/\(jE k t l).length<=100000:=by
 constructor
 .have:∀(ps a:List Bs),(∀p∈ps,bG p=ab)->(∀p∈a,bG p=ab)->∀p∈ps.foldl (m0 k l) a,bG p=ab:=by
   intro ps;induction ps with
   |nil=>grind
   |cons q r d =>
    intro a e h;refine d _ (λp b=>e p (kE _ b)) λp b=>?_;unfold m0 at b;grind
  refine this _ [] (λp b=>?_) (by simp);obtain⟨f,g,b⟩:=qV.1 b;exact sS (c.tZ f g).1 p b
 .have:=yg k l (jZ t) [];have h:=c.all;unfold jE;simp only[jk]at this;exact dO this (by omega)
def BO{l:List ba}(h:(eP l).length<=100000):(indexOf l).length<=100000:=by unfold indexOf;grind[yh]
abbrev YX(s:bk)(b:Bool):D:=.fw [.agg [.c (.sl ae 2 s.1.length (cP.fn s.1)),.c (.sl ae 2 s.2.1.length (eG.fn s.2.1)),.c (.sl ae 2 s.2.2.length (cH.fn s.2.2))],.one (.c (.bool b))]
abbrev LQ(s:bk):bd:=.cells 27 [.c (.sl ae 2 s.1.length (cP.fn s.1)),.c (.sl ae 2 s.2.1.length (eG.fn s.2.1)),.c (.sl ae 2 s.2.2.length (cH.fn s.2.2))]
def Kn(k:Int)(s:bk)(x:cC)(b:x.2.length<=4000000)(a:∀y∈x.2,y.2.length<=4000000):Ev X 57 [dI k,qg s,BH x] [] (dB (cj k x s.1).isSome) []:=by
 refine Ev.bQ Tryz.func57 rfl λd=>?_;have c:bA X [(91,wB)]:=.cons D2 .nil;have e:(x.1,cL.list x.2.length (cL.fn x.2))=x:=by rw[cL.list_fn]
 refine bZ c rfl ?_ (AK.bo rfl ?_)
 .simp only[au,cL.list_fn,cL.aO,cP.aO,b,aH,aE];exact a
 .simp[cL.list_fn,cP.list_fn]
abbrev Ko:dy:=Fl aI Nd (CK cL) (λk s x=>dB (cj k x s.1).isSome) λ_ _ x=>[x.2.length<=4000000,∀y∈x.2,y.2.length<=4000000]
def Rj:dM X 57 Ko:=.LN λk s x h=>Kn k s x h.1 h.2
def nO{f:α->Int}{d:α}{l:List α}(h:i≠0):xu f d l i=decide (f (l.getD (i-1) d)<f (l.getD i d)):=by unfold xu;grind
def B7(k:Int)(s:bk)(M:mE s)(P:s.1.length<=4000000)(Q:s.2.1.length<=4000000):Ev X 24 [dI k,qg s] [] (dB (fN k s)) []:=by
 refine Ev.bQ Tryz.func24 rfl λR=>?_;have c:bA X [(55,B4),(26,Kh),(56,DU),(57,Ko),(58,BY),(59,uH)]:=.cons Kg (.cons O9 (.cons GJ (.cons Rj (.cons FD (.cons NP .nil)))));refine aR c [(1000002,ab)] rfl ar ?_;refine AK.ix 5 3 1 rfl rfl ?_;refine bZ c rfl ar ?_;unfold fN;refine AK.bY 2 (λi=>i<=s.1.length/\(∀j,j<i->lN k s.1 j=ab)/\(bC (s.1.take i)).Nodup/\(bC (s.1.take i)).length<=4*i) (λi:Nat=>[(0,dI k),(3,.e (.one (.ptr 0 0))),(5,.e (.one (.vec 1 1 (bC (s.1.take i)).length (cI.fn (bC (s.1.take i)))))),(6,dI i)]) (λi=>[LQ s,.vec 3 1 (bC (s.1.take i)).length (cI.fn (bC (s.1.take i)))]) (λi=>s.1.length-i) 0 rfl (by simp[bC]) rfl (by simp[bC]) rfl ⟨by omega,by omega,by simp[bC],by simp[bC]⟩ ?_;rintro i ⟨hi,g,v,N⟩;by_cases h:i<s.1.length
 .have x:=wC h;have H:=G4 (ps:=s.1) (i:=i+1);have m:s.1.getD i cP.bR=s.1.getD i (0,[]):=rfl;have n:s.1.getD (i-1) cP.bR=s.1.getD (i-1) (0,[]):=rfl;have b:lN k s.1 i=(iX k (s.1.getD i (0,[]))&&xu (·.1) (0,[]) s.1 i):=rfl;have D:=nO (f:=λp:ba=>p.1) (d:=(0,[])) (l:=s.1) (i:=i);generalize F:s.1.getD i (0,[])=p at *;generalize s.1.getD (i-1) (0,[])=p' at *;cases t:iX k p with
  |false =>
   rw[t,rb]at b;refine aR c [(14,ab),(25,ab),(44,ab)] rfl ?_ (AK.eX (cd.zero rfl ?_))
   .simp[-aj,m,t,er.list_fn,er.aO,h]
   .rw[fV h b];simp
  |true =>
   have S:p.2.length<=4:=by grind[o7]
   rw[t,fA]at b;cases u:xu (·.1) (0,[]) s.1 i with
   |false =>
    have r:i≠0:=by rintro rfl;cases u
    have B:¬p'.1<p.1:=by grind
    refine aR c [(14,ab),(25,ae),(28,ab),(42,ab),(44,ab)] rfl ?_ (AK.eX (cd.zero rfl ?_))
    .simp[-aj,m,n,t,er.list_fn,er.aO,h,bw];omega
    .rw[fV h (b.trans u)];simp
   |true =>
   rw[u]at b;apply AK.join [(0,dI k),(3,.e (.one (.ptr 0 0))),(5,.e (.one (.vec 1 1 (bC (s.1.take i)).length (cI.fn (bC (s.1.take i)))))),(6,dI i),(7,dI 0)] [LQ s,.vec 3 1 (bC (s.1.take i)).length (cI.fn (bC (s.1.take i)))]
   .intro z;by_cases r:i=0
    .subst r;refine aR c [(14,ab),(25,ae),(28,ae),(44,ae)] rfl ?_ (z _ _ rfl ?_)
     .simp[-aj,m,t,er.list_fn,er.aO,h]
     .simp
    .have B:p'.1<p.1:=by grind
     refine aR c [(14,ab),(25,ae),(28,ab),(42,ae),(44,ae)] rfl ?_ (z _ _ rfl ?_)
     .simp[-aj,m,n,t,er.list_fn,er.aO,h,bw];omega
     .simp
   generalize bC (s.1.take i)=ns at *;refine AK.bY 2 (λj=>j<=p.2.length/\(ns++(p.2.take j).map (·.1)).Nodup) (λj:Nat=>[(0,dI k),(3,.e (.one (.ptr 0 0))),(5,.e (.one (.vec 1 1 (ns++(p.2.take j).map (·.1)).length (cI.fn (ns++(p.2.take j).map (·.1)))))),(6,dI i),(7,dI j)]) (λj=>[LQ s,.vec 3 1 (ns++(p.2.take j).map (·.1)).length (cI.fn (ns++(p.2.take j).map (·.1)))]) (λj=>p.2.length-j) 0 rfl (by simp) rfl (by simp) rfl ⟨by omega,by grind⟩ ?_;rintro j ⟨O,G⟩;by_cases o:j<p.2.length
   .have A:p.2.getD j er.bR=fU p j:=rfl;have y:ns++(p.2.take (j+1)).map (·.1)=(ns++(p.2.take j).map (·.1))++[(fU p j).1]:=by grind[bt]
    have w:(ns++(p.2.take j).map (·.1)).length=ns.length+j:=by grind
    generalize ns++(p.2.take j).map (·.1)=a at *;cases K:a.contains (fU p j).1 with
    |true =>
     refine aR c [(53,ab),(67,ab)] rfl ?_ (AK.eX (AK.rI (cd.zero rfl ?_)))
     .simp[-aj,-List.contains_eq_mem,m,A,h,o,K,cI.list_fn,cI.aO]
     .have L:¬(bC s.1).Nodup:=H (by
       have e:ns++p.2.map (·.1)=(ns++(p.2.take (j+1)).map (·.1))++(p.2.drop (j+1)).map (·.1):=by grind[List.take_append_drop]
       grind)
      simp[L]
    |false =>
     have I:=cI.cr a (fU p j).1;have C:cI.list (ns.length+j) (cI.fn a)=a:=by rw[<-w];exact cI.list_fn a
     refine aR c [(53,ab),(67,ae)] rfl ?_ (AK.aQ (j+1) rfl ?_ ?_ ⟨o,?_⟩ (by omega))
     .simp[-aj,-List.contains_eq_mem,m,A,h,o,K,cI.list_fn,cI.aO,w,C,bw,show i3.bytes=8 from rfl];omega
     .rw[y];simp only[au.cat,au,bL,m,A,cv,e9,aH,aE];and_intros<;>first|exact cp.same|exact I|rfl|omega
     .rw[y];simp only[au.cat,au,bL,m,A,cv,e9,aH,aE];and_intros<;>first|exact cp.same|exact I|rfl|omega
     grind
   .obtain rfl:j=p.2.length:=by omega
    rw[cO]at G⊢;refine aR c [(53,ae)] rfl ?_ (AK.leaveD rfl rfl ?_)
    .simp[-aj,m,h]
    refine bZ c rfl ?_ (AK.aQ (i+1) rfl ?_ ?_ ⟨h,gX g b,by grind,by grind⟩ (by omega))
    .simp[bw];omega
    .rw[x];simp
    .rw[x];simp
 obtain rfl:i=s.1.length:=by omega
 rw[cO]at v⊢;refine aR c [(14,ae)] rfl (by simp) (AK.leaveD rfl rfl ?_);refine bZ c rfl ar ?_;rw[dg.2 g,dh v,fA,fA];generalize bC s.1=ns;refine AK.bY 2 (λi=>i<=s.2.1.length/\(∀j,j<i->jG k s j=ab)) (λi:Nat=>[(0,dI k),(3,.e (.one (.ptr 0 0))),(8,dI i)]) (λ_=>[LQ s,.vec 3 1 ns.length (cI.fn ns)]) (λi=>s.2.1.length-i) 0 rfl (by simp) rfl (by simp) rfl ⟨by omega,by omega⟩ ?_;rintro i ⟨hi,g⟩;by_cases h:i<s.2.1.length
 .have m:s.2.1.getD i eG.bR=s.2.1.getD i (0,[]):=rfl;have n:s.2.1.getD (i-1) eG.bR=s.2.1.getD (i-1) (0,[]):=rfl;have q:=M _ (gI (d:=(0,[])) h);have b:jG k s i=(decide (1<=(s.2.1.getD i (0,[])).1/\(s.2.1.getD i (0,[])).1<=20)&&xu (·.1) (0,[]) s.2.1 i&&(cj k (s.2.1.getD i (0,[])) s.1).isSome):=rfl;have D:=nO (f:=λp:cC=>p.1) (d:=(0,[])) (l:=s.2.1) (i:=i);generalize F:s.2.1.getD i (0,[])=p at *;generalize s.2.1.getD (i-1) (0,[])=p' at *;by_cases c1:1<=p.1/\p.1<=20
  rotate_left
  .refine aR c [(85,ab),(96,ab),(116,ab),(126,ab)] rfl ?_ (AK.eX (cd.zero rfl ?_))
   .simp[-aj,m,h];omega
   .rw[fV h (by grind)];simp
  cases u:xu (·.1) (0,[]) s.2.1 i with
  |false =>
   have r:i≠0:=by rintro rfl;cases u
   have B:¬p'.1<p.1:=by grind
   refine aR c [(85,ab),(96,ae),(99,ab),(113,ab),(116,ab),(126,ab)] rfl ?_ (AK.eX (cd.zero rfl ?_))
   .simp[-aj,m,n,h,c1,bw];omega
   .rw[fV h (by grind)];simp
  |true =>
   rw[dh c1,u,fA,fA]at b;cases o:(cj k p s.1).isSome with
   |false =>
    by_cases r:i=0
    .subst r;refine aR c [(85,ab),(96,ae),(99,ae),(116,ae),(126,ab)] rfl ?_ (AK.eX (cd.zero rfl ?_))
     .simp[-aj,m,h,c1,cL.list_fn,cL.aO,cP.list_fn,cP.aO,eG.aO,cH.aO,o,q.1];grind
     .rw[fV h (b.trans o)];simp
    .have B:p'.1<p.1:=by grind
     refine aR c [(85,ab),(96,ae),(99,ab),(113,ae),(116,ae),(126,ab)] rfl ?_ (AK.eX (cd.zero rfl ?_))
     .simp[-aj,m,n,h,c1,bw,cL.list_fn,cL.aO,cP.list_fn,cP.aO,eG.aO,cH.aO,o,q.1];and_intros<;>first|omega|grind
     .rw[fV h (b.trans o)];simp
   |true =>
    rw[o]at b;by_cases r:i=0
    .subst r;refine aR c [(85,ab),(96,ae),(99,ae),(116,ae),(126,ae)] rfl ?_ (AK.aQ 1 rfl (by simp) (by simp) ⟨h,gX g b⟩ (by omega));simp[-aj,m,h,c1,bw,cL.list_fn,cL.aO,cP.list_fn,cP.aO,eG.aO,cH.aO,o,q.1];grind
    .have B:p'.1<p.1:=by grind
     refine aR c [(85,ab),(96,ae),(99,ab),(113,ae),(116,ae),(126,ae)] rfl ?_ (AK.aQ (i+1) rfl (by simp) (by simp) ⟨h,gX g b⟩ (by omega));simp[-aj,m,n,h,c1,bw,cL.list_fn,cL.aO,cP.list_fn,cP.aO,eG.aO,cH.aO,o,q.1];and_intros<;>first|omega|grind
 obtain rfl:i=s.2.1.length:=by omega
 refine aR c [(85,ae)] rfl (by simp) (AK.leaveD rfl rfl ?_);rw[dg.2 g,fA];cases E:cB k
 .exact aR c [(129,ae),(134,ae)] rfl (by simp[E]) (AK.bo rfl)
 cases J:o8 s.2.2
 .exact aR c [(129,ab),(134,ae)] rfl (by simp[E,J,cH.list_fn,cH.aO]) (AK.bo rfl)
 exact aR c [(129,ab),(134,ab)] rfl (by simp[E,J,cH.list_fn,cH.aO]) (AK.bo rfl (by simp;omega))
abbrev yr:dy:=oa aI Nd (λk s=>dB (fN k s)) λ_ s=>[mE s,s.1.length<=4000000,s.2.1.length<=4000000]
def G5:dM X 24 yr:=.qC λk s h=>B7 k s h.1 h.2.1 h.2.2
def gu(n:Int)(a:List Int×Bool)(y:Int):List Int×Bool :=
 if a.2=ab then(if y=n then a else(a.1++[y],ab))else if n<=y then(if y=n then(a.1++[n],ab)else(a.1++[n,y],ab))else(a.1++[y],ae)
abbrev pb(n:Int)(l:List Int)(i:Nat):List Int×Bool:=(l.take i).foldl (gu n) ([],ae)
def k6(l:List Int)(n:Int):List Int:=if(l.foldl (gu n) ([],ae)).2=ab then(l.foldl (gu n) ([],ae)).1 else(l.foldl (gu n) ([],ae)).1++[n]
def B8{n:Int}{l:List Int}(h:i<l.length):pb n l (i+1)=gu n (pb n l i) (l.getD i 0):=by grind[bt]
def wD(n:Int)(l:List Int):∀i,i<=l.length->(pb n l i).1.length+(if(pb n l i).2=ab then 0 else 1)<=i+1
 |0,_=>by simp[pb]
 |i+1,h=>by have:=wD n l i (by omega);rw[B8 (by omega)];generalize pb n l i=a at *;obtain⟨a,b⟩:=a;unfold gu;grind
theorem Kp(l:List Int)(n:Int):(k6 l n).length<=l.length+1:=by
 have:=wD n l l.length (aZ _);simp only[pb,cO]at this;unfold k6;split at this<;>rename_i h
 .grind
 grind
def m6{α:Type}(c:jY α)(l:List α)(x y:α):cp (l.length+1+1) (cy (l.length+1) (cy l.length (c.fn l) λq=>[c.enc x].getD q []) λq=>[c.enc y].getD q []) (c.fn (l++[x,y])):=c.m6 l x y
def Kq(l:List Int)(n:Int)(p:l.length<=100000000):Ev X 61 [cI.sl l,dI n] [] (cI.sl (k6 l n)) []:=by
 refine Ev.bQ Tryz.func61 rfl λq=>?_;refine aW [(1000002,ab)] rfl ar ?_;refine AK.ix 5 3 1 rfl rfl ?_;refine bx rfl ar ?_;refine AK.bY 1 (λi=>i<=l.length) (λi:Nat=>[(0,cI.sl l),(1,dI n),(5,.e (.one (.vec 0 1 (pb n l i).1.length (cI.fn (pb n l i).1)))),(6,dB (pb n l i).2),(7,dI i)]) (λi=>[.vec 3 1 (pb n l i).1.length (cI.fn (pb n l i).1)]) (λi=>l.length-i) 0 rfl (by simp[pb]) rfl (by simp[pb]) rfl (by omega) ?_;intro i hi;have k:=wD n l i hi;by_cases h:i<l.length
 .have c:=B8 (n:=n) h;have d:l.getD (i:Int).toNat cI.bR=l.getD i 0:=by rw[bL];rfl
  generalize l.getD i 0=y at *;generalize pb n l i=a at *;obtain⟨a,b⟩:=a;have g:=λy=>cI.cr a y;have o:=λx y=>cI.m6 a x y;have r:(a.length+1+1)*8<=140737488355328:=by grind
  have fin:∀a',pb n l (i+1)=a'->True:=λ_ _=>trivial;have j:l.length-(i+1)<l.length-i:=by omega
  by_cases f:y=n
  .cases b with
   |true =>
    rw[show gu n (a,ab) y=(a,ab) by simp[gu,f]]at c;refine aW [(12,ab),(34,ae)] rfl ?_ (AK.aQ (i+1) rfl ?_ ?_ h j)
    .simp only[au,d,f,bw];simp;omega
    .rw[c];simp
    .rw[c];simp
   |false =>
    rw[show gu n (a,ae) y=(a++[n],ab) by simp[gu,f]]at c;refine aW [(12,ab),(24,ab),(34,ae)] rfl ?_ (AK.aQ (i+1) rfl ?_ ?_ h j)
    .simp only[au,d,f,bw,show i3.bytes=8 from rfl];simp;omega
    .rw[c];simp only[au.cat,au,cv,e9,aH,aE];and_intros<;>first|exact cp.same|exact g n|rfl|omega
    .rw[c];simp only[au.cat,au,cv,e9,aH,aE];and_intros<;>first|exact cp.same|exact g n|rfl|omega
  .cases b with
   |true =>
    rw[show gu n (a,ab) y=(a++[y],ab) by simp[gu,f]]at c;refine aW [(12,ab),(34,ab)] rfl ?_ (AK.aQ (i+1) rfl ?_ ?_ h j)
    .simp only[au,d,bw,show i3.bytes=8 from rfl];simp[f];omega
    .rw[c];simp only[au.cat,au,d,cv,e9,aH,aE];and_intros<;>first|exact cp.same|exact g y|rfl|omega
    .rw[c];simp only[au.cat,au,d,cv,e9,aH,aE];and_intros<;>first|exact cp.same|exact g y|rfl|omega
   |false =>
    by_cases m:n<=y
    .rw[show gu n (a,ae) y=(a++[n,y],ab) by simp[gu,f,m]]at c;refine aW [(12,ab),(24,ab),(34,ab)] rfl ?_ (AK.aQ (i+1) rfl ?_ ?_ h j)
     .simp only[au,d,bw,show i3.bytes=8 from rfl];simp[f,m];omega
     .rw[c];simp only[au.cat,au,d,cv,gb,jk,aH,aE];and_intros<;>first|exact cp.same|exact o n y|rfl|omega
     .rw[c];simp only[au.cat,au,d,cv,gb,jk,aH,aE];and_intros<;>first|exact cp.same|exact o n y|rfl|omega
    .rw[show gu n (a,ae) y=(a++[y],ae) by simp[gu,m]]at c;refine aW [(12,ab),(24,ae),(34,ab)] rfl ?_ (AK.aQ (i+1) rfl ?_ ?_ h j)
     .simp only[au,d,bw,show i3.bytes=8 from rfl];simp[f,m];omega
     .rw[c];simp only[au.cat,au,d,cv,e9,aH,aE];and_intros<;>first|exact cp.same|exact g y|rfl|omega
     .rw[c];simp only[au.cat,au,d,cv,e9,aH,aE];and_intros<;>first|exact cp.same|exact g y|rfl|omega
 .obtain rfl:i=l.length:=by omega
  unfold k6;simp only[pb,cO]at k⊢;generalize l.foldl (gu n) ([],ae)=a at *;obtain⟨a,b⟩:=a;have g:=cI.cr a n;refine aW [(12,ae)] rfl (by simp) (AK.leaveD rfl rfl ?_);cases b with
  |true=>exact bx rfl (by simp) (AK.bo rfl)
  |false =>
   refine bx rfl ?_ (AK.bo rfl ?_)
   .simp only[au,show i3.bytes=8 from rfl];simp at k⊢;omega
   .simp only[au,gJ,bM,cv,e9];and_intros<;>first|exact g|trivial
abbrev D3:dy:=oa (aL cI) aI (λl n=>cI.sl (k6 l n)) λl _=>[l.length<=100000000]
def Kr:dM X 61 D3:=.qC λl n h=>Kq l n h
theorem jH(a:List Int):∀l:List Int,(l.foldl k6 a).length<=a.length+l.length
 |[]=>by simp
 |x::l=>by have:=jH (k6 a x) l;grind[Kp]
def yt{b:Type}(f:b->Int->b)(a:b){l:List Int}(h:j<l.length):(l.take (j+1)).foldl f a=f ((l.take j).foldl f a) (l.getD j 0):=by grind[bt]
def gj(l:List gz):List Int:=(bT l).foldl k6 []
theorem qG(l:List gz):(gj l).length<=(bT l).length:=by
 have:=jH [] (bT l)
 rwa [jk,br]at this
def xw(s:cC)(p:s.2.length<=4000000)(r:(bT s.2).length<=4000000):Ev X 60 [BH s] [] (cI.sl (gj s.2)) []:=by
 refine Ev.bQ Tryz.func60 rfl λq=>?_;have b:bA X [(61,D3)]:=.cons Kr .nil;refine bZ b rfl ar ?_;refine AK.bY 1 (λi=>i<=s.2.length) (λi:Nat=>[(1,.e (.one (.ptr 0 0))),(3,cI.sl (gj (s.2.take i))),(4,dI i)]) (λ_=>[Vw s]) (λi=>s.2.length-i) 0 rfl (by simp[gj,bT]) rfl (by simp) rfl (by omega) ?_;intro i hi;by_cases h:i<s.2.length
 .have k:s.2.getD i cL.bR=s.2.getD i ([],[]):=rfl;have d:=rW h;have m:=m8 s.2 (i+1);have o:=qG (s.2.take i);have n:gj (s.2.take (i+1))=(s.2.getD i ([],[])).2.foldl k6 (gj (s.2.take i)):=by simp only[gj,d,uj]
  rw[d,cv]at m;generalize s.2.getD i ([],[])=x at *;generalize gj (s.2.take i)=a at *;refine aR b [(11,ab)] rfl (by simp[h]) ?_;refine AK.bY 1 (λj=>j<=x.2.length) (λj:Nat=>[(1,.e (.one (.ptr 0 0))),(3,cI.sl ((x.2.take j).foldl k6 a)),(4,dI i),(5,dI j)]) (λ_=>[Vw s]) (λj=>x.2.length-j) 0 rfl (by simp) rfl (by simp) rfl (by omega) ?_;intro j t;by_cases f:j<x.2.length
  .have c:x.2.getD j cI.bR=x.2.getD j 0:=rfl;have l:=yt k6 a f;have g:=jH a (x.2.take j);rw[List.length_take]at g;generalize(x.2.take j).foldl k6 a=a2 at *;have e:=cI.list_fn a2;refine aR b [(22,ab)] rfl ?_ (AK.aQ (j+1) rfl ?_ ?_ f (by omega))
   .simp[-aj,k,c,h,f,e,cI.aO,bw];omega
   .rw[l];simp[-aj,k,c,e]
   .simp
  .obtain rfl:j=x.2.length:=by omega
   rw[cO,<-n];refine aR b [(22,ae)] rfl ?_ (AK.leaveD rfl rfl ?_)
   .simp[-aj,k,h]
   refine bZ b rfl ?_ (AK.aQ (i+1) rfl ?_ ?_ h (by omega))
   .simp[bw];omega
   .simp
   .simp
 .obtain rfl:i=s.2.length:=by omega
  rw[cO];refine aR b [(11,ae)] rfl (by simp) (AK.leaveD rfl rfl ?_);exact bZ b rfl ar (AK.bo rfl)
abbrev FF:dy:=kB (CK cL) (λs=>cI.sl (gj s.2)) λs=>[s.2.length<=4000000,(bT s.2).length<=4000000]
def NR:dM X 60 FF:=.ox λs h=>xw s h.1 h.2
def gY(l:List cC):List Int:=l.flatMap λx=>bT x.2
def dz(l:List cC):List Int:=l.foldl (λout x=>(gj x.2).foldl k6 out) []
theorem qH{l:List cC}(h:i<l.length):gY (l.take (i+1))=gY (l.take i)++bT (l.getD i (0,[])).2:=by rw[bt h (0,[])];simp[gY]
def B9(l:List cC)(i:Nat):(gY (l.take i)).length<=(gY l).length:=by
 have h:gY l=gY (l.take i)++gY (l.drop i):=by unfold gY;grind[List.take_append_drop]
 grind
theorem wE{l:List cC}(h:i<l.length):dz (l.take (i+1))=(gj (l.getD i (0,[])).2).foldl k6 (dz (l.take i)):=by unfold dz;grind[bt]
def sW(l:List cC):∀i,i<=l.length->(dz (l.take i)).length<=(gY (l.take i)).length
 |0,_=>by simp[dz]
 |i+1,h=>by have a:=sW l i (by omega);grind[jH,qG,wE,qH]
def D4(s:bk)(m:mE s)(w:s.2.1.length<=4000000)(v:(gY s.2.1).length<=4000000):Ev X 27 [qg s] [] (cI.sl (dz s.2.1)) []:=by
 refine Ev.bQ Tryz.func27 rfl λu=>?_;have b:bA X [(61,D3),(60,FF)]:=.cons Kr (.cons NR .nil);refine bZ b rfl ar ?_;refine AK.bY 1 (λi=>i<=s.2.1.length) (λi:Nat=>[(1,.e (.one (.ptr 0 0))),(3,cI.sl (dz (s.2.1.take i))),(4,dI i)]) (λ_=>[LQ s]) (λi=>s.2.1.length-i) 0 rfl (by simp[dz]) rfl (by simp) rfl (by omega) ?_;intro i hi;by_cases h:i<s.2.1.length
 .have o:s.2.1.getD i eG.bR=s.2.1.getD i (0,[]):=rfl;have q:=m _ (gI (d:=(0,[])) h);have k:=qH h;have p:=B9 s.2.1 (i+1);have t:=sW s.2.1 i hi;have m:=wE h;rw[k,cv]at p;generalize s.2.1.getD i (0,[])=x at *;have r:=qG x.2;generalize dz (s.2.1.take i)=a at *;refine aR b [(12,ab)] rfl ?_ ?_
  .simp[-aj,h,o,cL.list_fn,cL.aO];omega
  have l:s.2.1.getD (i:Int).toNat eG.bR=x:=by rw[bL];exact o
  rw[l,cL.list_fn];refine AK.bY 1 (λj=>j<=(gj x.2).length) (λj:Nat=>[(1,.e (.one (.ptr 0 0))),(3,cI.sl (((gj x.2).take j).foldl k6 a)),(4,dI i),(5,cI.sl (gj x.2)),(6,dI j)]) (λ_=>[LQ s]) (λj=>(gj x.2).length-j) 0 rfl (by simp) rfl (by simp) rfl (by omega) ?_;intro j y;generalize gj x.2=ns at *;by_cases f:j<ns.length
  .have c:ns.getD j cI.bR=ns.getD j 0:=rfl;have n:=yt k6 a f;have g:=jH a (ns.take j);rw[List.length_take]at g;generalize(ns.take j).foldl k6 a=a2 at *;have e:=cI.list_fn a2;refine aR b [(24,ab)] rfl ?_ (AK.aQ (j+1) rfl ?_ ?_ f (by omega))
   .simp[-aj,c,f,e,cI.aO,bw];omega
   .rw[n];simp[-aj,c,e]
   .simp
  .obtain rfl:j=ns.length:=by omega
   rw[cO,<-m];refine aR b [(24,ae)] rfl (by simp) (AK.leaveD rfl rfl ?_);refine bZ b rfl ?_ (AK.aQ (i+1) rfl ?_ ?_ h (by omega))
   .simp[bw];omega
   .simp
   .simp
 .obtain rfl:i=s.2.1.length:=by omega
  rw[cO];refine aR b [(12,ae)] rfl (by simp) (AK.leaveD rfl rfl ?_);exact bZ b rfl ar (AK.bo rfl)
abbrev Ca:dy:=kB Nd (λs=>cI.sl (dz s.2.1)) λs=>[mE s,s.2.1.length<=4000000,(gY s.2.1).length<=4000000]
def Ks:dM X 27 Ca:=.ox λs h=>D4 s h.1 h.2.1 h.2.2
abbrev c7:=bk×List Int×List Int
abbrev fSt:FA bk:=fP (fL cP) (fP (fL eG) (fL cH))
abbrev fSw:FA c7:=fP fSt (fP (fL cI) (fL cI))
abbrev p0(c:jY α)(l:List α):A:=.c (.sl ae c.k l.length (c.fn l))
abbrev Xx(w:c7):List A:=[p0 cP w.1.1,p0 eG w.1.2.1,p0 cH w.1.2.2,p0 cI w.2.1,p0 cI w.2.2]
abbrev LR(w:c7):D:=.e (.agg (Xx w))
structure Y0(s:bk):Prop where
 pN:s.1.length<=4000000
 sm:mE s
 sN:s.2.1.length<=4000000
 aN:(gY s.2.1).length<=4000000
def nP(ps:List ba)(l:List Int)(i:Nat):Bool:=(ps.any λp=>p.1==l.getD i 0)&&xu (λx=>x) 0 l i
def mf(k:Int)(w:c7):Bool:=(dz w.1.2.1).all (λn=>w.2.1.contains n)&&(bh w.2.2.length).all (nP w.1.1 w.2.2)&&fN k w.1
abbrev sX(w:c7):bd:=.cells 32 (Xx w)
def CL(ps:List ba)(q:Nat->ai)(j:Nat):List C:=[.int .i64 (ps.getD j (0,[])).1,.val (q j)]
def AI(ps:List ba)(q:Nat->ai)(i:Nat):Mem->Prop:=λM=>∀j,j<i->Rd M (q j) (.sl ae 2 (ps.getD j (0,[])).2.length (er.fn (ps.getD j (0,[])).2))
def HJ(q:Nat->ai)(i:Nat)(v:ai)(j:Nat):ai:=if j=i then v else q j
def Lb{ps:List ba}{q:Nat->ai}:cp (i+1) (cy i (CL ps q) (λj=>([[.int .i64 (ps.getD i (0,[])).1,.val v]]:List (List C)).getD j [])) (CL ps (HJ q i v)):=by
 intro j a;by_cases h:j<i
 .simp[cy,h,CL,HJ,show j≠i by omega]
 .obtain rfl:j=i:=by omega
  simp[cy,CL,HJ]
def AI.up{ps:List ba}{q:Nat->ai}{bf:tP}{xs:List ai}(n:0<(ps.getD i (0,[])).2.length)(f:ig 2 (ps.getD i (0,[])).2.length (er.fn (ps.getD i (0,[])).2) xs)(hb:∃b cap,bf=.row b cap/\(ps.getD i (0,[])).2.length<=cap/\cap<=9223372036854775807):
  ∀M M',vI M M'->AI ps q i M->(∀b cap,bf=.row b cap->∀j v,xs[j]?=aa v->M' b j=aa v)->AI ps (HJ q i (se bf (ps.getD i (0,[])).2.length)) (i+1) M':=by
 intro M M' hle hK hx j hj;by_cases h:j<i
 .have:=(hK j h).mono hle;simpa[HJ,show j≠i by omega]using this
 .obtain rfl:j=i:=by omega
  obtain⟨b,cap,rfl,l,k⟩:=hb;rw[HJ,bn rfl];have hx:=hx b cap rfl;refine .sl b 0 (λd e=>xs.getD (d*2+e) ah) l k (λh=>by cases h) (λd a=>f.wid d a) (λ_=>rfl) (λd a e c g=>?_) λd a e c g=>?_
  .obtain⟨v,v1,m⟩:=f.at' d a e c g;grind
  .obtain⟨v,v1,m⟩:=f.at' d a e c g;grind
abbrev Oe(s:bk)(i:Nat)(es:Nat->List C)(j:Nat)(l:List cC)(K:Mem->Prop):List bd:=[qN s,.cells 27 [g6,g6,g6],.buf 43 2 i es,.buf 39 2 j (eG.fn l),.buf 101 2 s.2.2.length (cH.fn s.2.2),.cells 27 [.bp 2 (.sl i 2 0 i),.bp 3 (.sl j 2 0 j),.bp 4 (.sl s.2.2.length 2 0 s.2.2.length)],.cf (PM K)]
def Ej(s:bk)(z:∀p∈s.1,0<p.2.length)(F:s.1.length<=4000000)(t:∀p∈s.1,p.2.length<=4000000)(D:s.2.1.length<=4000000)(o:mE s)(G:s.2.2.length<=4000000):
  dL (ι:=Nat->ai) X 25 [qg s] [] (λ_=>.e (.agg [.bp 0 (.sl s.1.length 2 0 s.1.length),.bp 1 (.sl s.2.1.length 2 0 s.2.1.length),.bp 2 (.sl s.2.2.length 2 0 s.2.2.length)]))
   (λq=>[.buf 43 2 s.1.length (CL s.1 q),.buf 39 2 s.2.1.length (eG.fn s.2.1),.buf 101 2 s.2.2.length (cH.fn s.2.2),.cf (PM (AI s.1 q s.1.length))]):=by
 refine dL.n7 tok Tryz.func25 rfl rfl rfl λE=>?_;refine bF [(1000001,ab)] rfl ar ?_;refine AK.region ?_;refine DC [] 5 rfl ar ?_;refine AK.IW 9 43 2 (cP.fn []) rfl ?_;refine AK.IW 10 39 2 (eG.fn []) rfl ?_;refine AK.IW 11 101 2 (cH.fn []) rfl ?_;refine bF [(1000002,ab)] rfl ?_ ?_
 .simp only[au,show i101.bytes=16 from rfl,aH,aE];grind
 refine AK.spare 68 2 ?_;refine AK.HU (ι:=Unit) 6 (λ_=>PM (AI s.1 (λ_=>ah) 0)) rfl (λv A h=>⟨(),PM.start (λ_ _ h=>absurd h (gw _)) v A h⟩) λ_=>?_;refine c9 rfl ar ?_;refine AK.bY 7 (λx:Nat×(Nat->ai)=>x.1<=s.1.length) (λx=>[(1,.e (.one (.ptr 0 0))),(2,.e (.one (.ptr 1 0))),(3,.e (.one (.ptr 5 0))),(4,dI x.1)]) (λx=>Oe s x.1 (CL s.1 x.2) 0 [] (AI s.1 x.2 x.1)) (λx=>s.1.length-x.1) (0,λ_=>ah) rfl ?_ rfl ?_ rfl (iN _) ?_
 .simp
 .simp[cp,m7];rfl
 rintro⟨i,b⟩ hi;simp only at hi;by_cases h:i<s.1.length
 .have g:s.1.getD i (0,[])∈s.1:=by grind
  have a:s.1.getD (i:Int).toNat cP.bR=s.1.getD i (0,[]):=by grind
  have q:=t _ g;have d:=z _ g;rw[<-a]at d q;refine aW [(20,ab),(1000005,ab)] rfl ?_ ?_
  .simp only[au,bw,bl,aH,aE];omega
  refine AK.Qg (ι:=Own (s.1.getD (i:Int).toNat cP.bR).2) di 15 18 8 (λk=>bu k 14)
   (λk=>[.e (.one (.ptr 5 0)),.e (.one (.bp 2 (.sl i 2 0 i))),.e (.one (.ptr 0 0)),cP.sl s.1,dI i,Sd [.int .i64 (s.1.getD (i:Int).toNat cP.bR).1,sP (s.1.getD (i:Int).toNat cP.bR)],Sd [.int .i64 (s.1.getD (i:Int).toNat cP.bR).1,sP (s.1.getD (i:Int).toNat cP.bR)],dI (s.1.getD (i:Int).toNat cP.bR).1,
    .e (.one (.c (.sl ab 2 0 (λj=>[].getD j [])))),.e (.one (.ptr 0 0)),cP.sl s.1,dI i,Sd [.int .i64 (s.1.getD (i:Int).toNat cP.bR).1,sP (s.1.getD (i:Int).toNat cP.bR)],Sd [sP (s.1.getD (i:Int).toNat cP.bR)],.e (.one (.c (sP (s.1.getD (i:Int).toNat cP.bR))))].getD k .any)
   (λq k=>[.e (.one (.c (Ac _ q))),.e (.agg [.c (.int .i64 (s.1.getD (i:Int).toNat cP.bR).1),.c (Ac _ q)]),.e (.one (.c (.sl ab 2 1 (λj=>[[.int .i64 (s.1.getD (i:Int).toNat cP.bR).1,Ac _ q]].getD j []))))].getD (k-15) .any)
   (λq=>Oe s i (CL s.1 b) 0 [] (AI s.1 b i)++[GS _ q])
   rfl rfl rfl rfl rfl rfl rfl (λk h=>by have:=dJ h;omega) rfl
   ⟨OA.dr tok bA.nil rfl,OA.dr tok bA.nil rfl,OA.dr tok bA.nil rfl,OA.dr tok bA.nil rfl,OA.dr tok bA.nil rfl,OA.eval (ds:=[]) tok bA.nil rfl ?_,OA.dr tok bA.nil rfl,OA.dr tok bA.nil rfl,OA.dr tok bA.nil rfl,OA.dr tok bA.nil rfl,OA.dr tok bA.nil rfl,OA.dr tok bA.nil rfl,OA.eval (ds:=[]) tok bA.nil rfl ?_,OA.dr tok bA.nil rfl,OA.dr tok bA.nil rfl,ar,ar,ar,ar,ar,ar,ar⟩
   (λq=>⟨OA.dr tok bA.nil rfl,OA.dr tok bA.nil rfl,OA.dr tok bA.nil rfl,OA.dr tok bA.nil rfl,OA.dr tok bA.nil rfl,OA.eval (ds:=[]) tok bA.nil rfl ?_,OA.dr tok bA.nil rfl,OA.dr tok bA.nil rfl,OA.dr tok bA.nil rfl,OA.dr tok bA.nil rfl,OA.dr tok bA.nil rfl,OA.dr tok bA.nil rfl,OA.eval (ds:=[]) tok bA.nil rfl ?_,OA.dr tok bA.nil rfl,OA.dr tok bA.nil rfl,ar,OA.dr tok bA.nil rfl,OA.dr tok bA.nil rfl,ar⟩)
   (oq.P7 rfl (jL.fresh (Ui rfl) rfl rfl rfl d (by show _*24<=_;omega) (Fy _ _))) ?_
  .simp only[au,aE];omega
  .simp only[au,aE];omega
  .simp only[au,aE];omega
  .simp only[au,aE];omega
  rw[a];rw[a]at d q;generalize m:s.1.getD i (0,[])=p at *;intro r;refine aW [(1000004,ab)] rfl ?_ ?_
  .simp only[au,show i43.bytes=32 from rfl,aH,aE];grind
  refine AK.fact (iL.Tj (l:=7) (n:=p.2.length) (bf:=r.1.1) (xs:=r.1.2) rfl d) λB=>?_;refine AK.merge 6 7 (by decide) rfl rfl (λ_ _ h=>h.1) (PM.add (AI.up (by grind) (by grind) (by grind))) ?_;have e:=Lb (ps:=s.1) (q:=b) (i:=i) (v:=se r.1.1 (s.1.getD i (0,[])).2.length);rw[m]at *;refine bx rfl ?_ (AK.aQ (i+1,HJ b i (se r.1.1 p.2.length)) rfl ?_ ?_ ?_ ?_)
  .simp only[au,bw,aE];omega
  .simp
  .simp only[au.cat,au,aE,aH];and_intros<;>first|exactλ_ _=>rfl|exact e|rfl
  .grind
  grind
 obtain rfl:i=s.1.length:=by omega
 refine bF [(20,ae)] rfl (by simp) (AK.leaveD rfl rfl ?_);refine c9 rfl ar ?_;refine AK.bY 7 (λi=>i<=s.2.1.length) (λi:Nat=>[(1,.e (.one (.ptr 0 0))),(2,.e (.one (.ptr 1 0))),(3,.e (.one (.ptr 5 0))),(5,dI i)]) (λi=>Oe s s.1.length (CL s.1 b) i (s.2.1.take i) (AI s.1 b s.1.length)) (λi=>s.2.1.length-i) 0 rfl ?_ rfl ?_ rfl (by omega) ?_
 .simp
 .simp[cp]
 intro i hi;by_cases h:i<s.2.1.length
 .have g:s.2.1.getD i (0,[])∈s.2.1:=by grind
  have a:s.2.1.getD (i:Int).toNat eG.bR=s.2.1.getD i (0,[]):=by grind
  have q:=o _ g;have e:=eG.ma s.2.1 h (0,[]);generalize s.2.1.getD i (0,[])=x at *;refine bF [(47,ab),(1000010,ab)] rfl ?_ ?_
  .simp only[au,a,bl,true_or,aH,aE];and_intros<;>omega
  rw[a];refine AK.gf 7 1 95 2 (cL.fn []) rfl rfl ?_;refine c9 rfl ar ?_;refine AK.bY 9 (λj=>j<=x.2.length) (λj:Nat=>[(1,.e (.one (.ptr 0 0))),(2,.e (.one (.ptr 1 0))),(3,.e (.one (.ptr 5 0))),(5,dI i),(6,.e (.one (.ptr 7 0))),(7,dI j)]) (λj=>Oe s s.1.length (CL s.1 b) i (s.2.1.take i) (AI s.1 b s.1.length)++[.cells 39 [.c (.int .i64 x.1),.vec 8 2 j (cL.fn (x.2.take j))],.vec 95 2 j (cL.fn (x.2.take j))]) (λj=>x.2.length-j) 0 rfl ?_ rfl ?_ rfl (by omega) ?_
  .simp
  .simp[cp]
  intro j u;by_cases w:j<x.2.length
  .have f:x.2.getD (j:Int).toNat cL.bR=x.2.getD j ([],[]):=by grind
   have C:=q.2 (x.2.getD j ([],[])) (by grind);have y:=cL.ma x.2 w ([],[]);refine bF [(66,ab),(2000085,ab)] rfl ?_ (AK.aQ (j+1) rfl ?_ ?_ ?_ ?_)
   .simp only[au,a,f,bw,show i95.bytes=40 from rfl,show i3.bytes=8 from rfl,bl,true_or,aH,aE];and_intros<;>omega
   .simp
   .simp only[au.cat,au,a,f,m7,br,aE,aH];and_intros<;>first|exactλ_ _=>rfl|exact y|rfl
   .grind
   .omega
  obtain rfl:j=x.2.length:=by omega
  rw[cO];refine bF [(66,ae)] rfl ?_ (AK.leaveD rfl rfl ?_)
  .simp only[au,a,b7];and_intros<;>omega
  refine c9 rfl ?_ (AK.aQ (i+1) rfl ?_ ?_ ?_ ?_)
  .simp only[au,a,bw,show i39.bytes=32 from rfl,aH,aE];and_intros<;>omega
  .simp
  .simp only[au.cat,au,aE,aH];and_intros<;>first|exactλ_ _=>rfl|exact e|rfl
  .grind
  .omega
 obtain rfl:i=s.2.1.length:=by omega
 rw[cO];refine bF [(47,ae)] rfl (by simp) (AK.leaveD rfl rfl ?_);refine c9 rfl ar ?_;refine AK.lH b [2,3,4,6] rfl rfl rfl rfl rfl rfl rfl rfl ?_ rfl rfl rfl rfl (λj u=>absurd u (by simp))
 .simp
def Lc(l:List cn)(x:cn)(r:l.length<=4000000):Ev X 152 [er.sl l,Q1 x] [] (.e (.one (.vec 0 2 (lW l x).length (er.fn (lW l x))))) [.vec 68 2 (lW l x).length (er.fn (lW l x))]:=by
 refine Ev.bQ Tryz.func152 rfl λs=>?_;refine bF [(1000002,ab)] rfl ar ?_;refine AK.ix 5 68 2 rfl rfl ?_;refine c9 rfl ar ?_;refine AK.bY 2 (λi=>i<=l.length) (λi:Nat=>YY l x i (mG x l i)) (λi=>Xu x (mG x l i).1) (λi=>l.length-i) 0 rfl ?_ rfl ?_ rfl (by omega) ?_
 .simp[mG]
 .simp[mG]
 intro i hi;by_cases h:i<l.length
 .have p:=yl (x:=x) h;have f:=rP x l i;have j:l.getD (i:Int).toNat er.bR=l.getD i (0,[]):=by grind
  generalize mG x l i=a at p f;obtain⟨a,b⟩:=a;simp only at f;have m:=er.cr a (l.getD i (0,[]));have n:=er.m6 a x (l.getD i (0,[]));cases b with
  |true =>
   have c:mG x l (i+1)=(a++[l.getD i (0,[])],ab):=p;have k:a.length+1=(a++[l.getD i (0,[])]).length:=by simp
   refine bF [(12,ab)] rfl ?_ (AK.aQ (i+1) rfl ?_ ?_ ?_ ?_)
   .simp only[au,j,bw,show i68.bytes=24 from rfl,bl,aH,aE];and_intros<;>omega
   .rw[c];simp only[au.cat,au,j,aH,aE];and_intros<;>first|exact k|exact m|exactλ_ _=>rfl|rfl|omega
   .rw[c];simp only[au.cat,au,j,aH,aE];and_intros<;>first|exact k|exact m|exactλ_ _=>rfl|rfl|omega
   .grind
   .omega
  |false =>
   by_cases g:x.1<(l.getD i (0,[])).1
   .have c:mG x l (i+1)=(a++[x,l.getD i (0,[])],ab):=by rw[p];simp only[iz,bn g];rfl
    have k:a.length+1+1=(a++[x,l.getD i (0,[])]).length:=by simp
    refine bF [(12,ab),(25,ab)] rfl ?_ (AK.aQ (i+1) rfl ?_ ?_ ?_ ?_)
    .simp only[au,j,bw,show i68.bytes=24 from rfl,g,lY,bl,aH,aE];and_intros<;>omega
    .rw[c];simp only[au.cat,au,j,aH,aE];and_intros<;>first|exact k|exact n|exactλ_ _=>rfl|rfl|omega
    .rw[c];simp only[au.cat,au,j,aH,aE];and_intros<;>first|exact k|exact n|exactλ_ _=>rfl|rfl|omega
    .grind
    .omega
   .have c:mG x l (i+1)=(a++[l.getD i (0,[])],ae):=by rw[p];simp only[iz,a9 g];rfl
    have k:a.length+1=(a++[l.getD i (0,[])]).length:=by simp
    refine bF [(12,ab),(25,ae)] rfl ?_ (AK.aQ (i+1) rfl ?_ ?_ ?_ ?_)
    .simp only[au,j,bw,show i68.bytes=24 from rfl,bl,g,kS,oz,b7,aH,aE];and_intros<;>omega
    .rw[c];simp only[au.cat,au,j,aH,aE];and_intros<;>first|exact k|exact m|exactλ_ _=>rfl|rfl|omega
    .rw[c];simp only[au.cat,au,j,aH,aE];and_intros<;>first|exact k|exact m|exactλ_ _=>rfl|rfl|omega
    .grind
    .omega
 .obtain rfl:i=l.length:=by omega
  have d:=sT x l [];have f:=rP x l l.length;refine bF [(12,ae)] rfl (by simp) (AK.leaveD rfl rfl ?_);have q:mG x l l.length=l.foldl (iz x) ([],ae):=by grind
  rw[q]at f⊢;generalize l.foldl (iz x) ([],ae)=a at *;obtain⟨a,b⟩:=a;simp only[um]at d f;cases b with
  |true =>
   simp only[b5]at d;subst d;refine c9 rfl ar (AK.dG [1] rfl ?_ ?_ rfl rfl tU)
   .simp
   .rfl
  |false =>
   simp only[gJ,bM]at d;have m:=er.cr a x;refine bF [(1000012,ab)] rfl ?_ ?_
   .simp only[au,show i68.bytes=24 from rfl,aH,aE];grind
   have o:(a++[x]).length=a.length+1:=by simp
   refine AK.IU (φ':=[(5,.e (.one (.vec 1 2 (a++[x]).length (er.fn (a++[x])))))]) (σ':=Xu x (a++[x])) ?_ rfl ?_ rfl ?_
   .rw[<-d];refine c9 rfl ar (AK.dG [1] rfl ?_ ?_ rfl rfl tU)
    .simp
    .rfl
   .simp only[au.cat,au,o,aH,aE];and_intros<;>first|exact m|rfl
   .simp only[au.cat,au,o,aH,aE];and_intros<;>first|exact m|rfl
def Ld[X.ic](l:List cn)(x:cn)(a:l.length<=4000000):dL (ι:=Own (lW l x)) X 152 [er.sl l,Q1 x] [] (λq=>.e (.one (.c (Ac (lW l x) q)))) (λq=>[GS (lW l x) q]) :=
 Ev.thaw (Lc l x a) Tryz.func152 rfl (by simp[uC,pR,l9]) λi hi=>⟨rfl,Fy _ _ i hi⟩
def Y8(no:Int)(L:List cn):Option (Own L)->List cn->List bd
 |none,l=>[.cells 43 [.c (.int .i64 0),.c (.sl ab 0 0 λ_=>[])],pkB no l,.cf (iL 68 2 (.nil af) 0 [])]
 |some q,_=>[.cells 43 [.c (.int .i64 0),.c (.sl ab 0 0 λ_=>[])],.cells 43 [.c (.int .i64 no),.c (Ac L q)],GS L q]
def Ho[X.ic](no k:Int)(ps:List Bs)(n:cB k=ab)(u:∀p∈ps,bG p=ab)(z:ps.length<=4000000)(C:0<ps.length):
  dL (ι:=Own (xc k ps)) X 108 [dI no,dI k,cS.sl ps] [] (λq=>.e (.agg [.c (.int .i64 no),.c (Ac (xc k ps) q)])) (λq=>[GS (xc k ps) q]):=by
 refine dL.n7 tok Tryz.func108 rfl rfl rfl λA=>?_;have f:bA X [(116,wm),(153,Fx),(152,O3)]:=.cons wc (.cons J3 (.cons Uf .nil));refine bq f [(1000002,ab)] rfl ar ?_;refine AK.spare 68 2 ?_;refine cJ f rfl ar ?_;refine AK.bY 3 (λx:Option (Own (xc k ps))×Nat=>x.2<=ps.length/\(x.1.isSome=ab↔x.2=ps.length)) (λx=>[(1,dI k),(2,cS.sl ps),(6,.e (.one (.ptr 0 0))),(7,.e (.one (.ptr 1 0))),(8,dI x.2)]) (λx=>Y8 no (xc k ps) x.1 (xc k (ps.take x.2))) (λx=>ps.length-x.2) (af,0) rfl ?_ rfl ?_ rfl ⟨iN _,by grind⟩ ?_
 .simp
 .simp[xc]
 rintro⟨q,i⟩ ⟨hi,t⟩;simp only at hi t;cases q with
 |some q =>
  obtain rfl:i=ps.length:=t.1 rfl;refine bq f [(15,ae)] rfl (by simp) (AK.leaveD rfl rfl ?_);refine cJ f rfl ar ?_;refine AK.lH q [2] rfl rfl rfl rfl rfl rfl rfl rfl ?_ rfl rfl rfl rfl (λj y=>absurd y (by simp));simp
 |none =>
  have h:i<ps.length:=by grind
  have m:ps.getD (i:Int).toNat cS.bR=ps.getD i []:=by grind
  have d:bG (ps.getD i [])=ab:=u _ (by grind);have v:=J5 (k:=k) h;have o:=Ab k (ps.take i);rw[List.length_take]at o;by_cases B:i+1<ps.length
  .refine bq f [(15,ab)] rfl ?_ (AK.aQ (af,i+1) rfl ?_ ?_ ?_ ?_)
   .simp only[au,m,n,d,bw,er.list_fn,bl,aH,aE];and_intros<;>first|exact er.aO _|omega
   .simp
   .show au _;rw[v];simp only[au.cat,au,m,er.list_fn,aH,aE];and_intros<;>first|exactλ_ _=>rfl|rfl|omega
   .grind
   grind
  .have w:i+1=ps.length:=by omega
   have b:xc k ps=lW (xc k (ps.take i)) (gp k (ps.getD i []),gq (ps.getD i [])):=by grind
   refine bq f [(15,ab),(1000005,ab)] rfl ?_ ?_
   .simp only[au,bl];omega
   have g:=Ld (X:=X) (xc k (ps.take i)) (gp k (ps.getD i []),gq (ps.getD i [])) (by omega);rw[<-b]at g;have a:bA X [(116,wm),(153,Fx)]:=.cons wc (.cons J3 .nil);generalize s:ps.getD i []=p at *;generalize xc k (ps.take i)=l at *;refine AK.Qg (ι:=Own (xc k ps)) di 14 15 16 (λj=>bu j 13)
    (λj=>([.e (.one (.ptr 1 1)),er.sl l,dI k,cS.sl ps,dI i,Sd [.str (ps.getD (i:Int).toNat cS.bR)],dS (ps.getD (i:Int).toNat cS.bR),dI (gp k (ps.getD (i:Int).toNat cS.bR)),cS.sl ps,dI i,Sd [.str (ps.getD (i:Int).toNat cS.bR)],dS (ps.getD (i:Int).toNat cS.bR),dS (gq (ps.getD (i:Int).toNat cS.bR)),.e (.agg [.c (.int .i64 (gp k (ps.getD (i:Int).toNat cS.bR))),.c (.str (gq (ps.getD (i:Int).toNat cS.bR)))])]:List D).getD j .any)
    (λq _=>.e (.one (.c (Ac (xc k ps) q)))) (λq=>Y8 no (xc k ps) af l++[GS (xc k ps) q])
    rfl rfl rfl rfl rfl rfl rfl (λj h=>by have:=dJ h;omega) rfl
    ⟨OA.dr tok a rfl,OA.dr tok a rfl,OA.dr tok a rfl,OA.dr tok a rfl,OA.dr tok a rfl,OA.eval (ds:=[]) tok a rfl ?_,OA.dr tok a rfl,OA.eval (ds:=[]) tok a rfl ?_,OA.dr tok a rfl,OA.dr tok a rfl,OA.eval (ds:=[]) tok a rfl ?_,OA.dr tok a rfl,OA.eval (ds:=[]) tok a rfl ?_,OA.dr tok a rfl,ar,ar,ar,ar⟩
    (λq=>⟨OA.dr tok a rfl,OA.dr tok a rfl,OA.dr tok a rfl,OA.dr tok a rfl,OA.dr tok a rfl,OA.eval (ds:=[]) tok a rfl ?_,OA.dr tok a rfl,OA.eval (ds:=[]) tok a rfl ?_,OA.dr tok a rfl,OA.dr tok a rfl,OA.eval (ds:=[]) tok a rfl ?_,OA.dr tok a rfl,OA.eval (ds:=[]) tok a rfl ?_,OA.dr tok a rfl,ar,ar⟩)
    (oq.ze (s▸g) [] rfl rfl rfl rfl rfl rfl rfl (λ_=>rfl) rfl (λ_=>rfl)) ?_
   all_goals first|(simp only[au,m,n,d,aE,aH];omega)|(simp only[au.cat,au,m,n,d,and_self];done)|skip
   intro r;refine bq a [(1000004,ab)] rfl ar ?_;refine AK.swap 2 3 (by decide) rfl rfl (λ_ _ h=>h.1) (λ_ _ h=>h.1) ?_;refine cJ a rfl ?_ (AK.aQ (aa r,i+1) rfl ?_ ?_ ?_ ?_)
   .simp only[au,bw];omega
   .simp
   .simp
   .grind
   grind
def AI.snoc{ps:List ba}{x:ba}{q:Nat->ai}{bf:tP}{xs:List ai}(c:0<x.2.length)(a:ig 2 x.2.length (er.fn x.2) xs)(hb:∃b cap,bf=.row b cap/\x.2.length<=cap/\cap<=9223372036854775807):
  ∀M M',vI M M'->AI ps q ps.length M->(∀b cap,bf=.row b cap->∀j v,xs[j]?=aa v->M' b j=aa v)->AI (ps++[x]) (HJ q ps.length (se bf x.2.length)) (ps++[x]).length M':=by
 intro M M' hle hK hx;have e:(ps++[x]).getD ps.length (0,[])=x:=by simp
 have h:=AI.up (ps:=ps++[x]) (q:=q) (i:=ps.length) (bf:=bf) (xs:=xs) (by grind) (by grind) (by grind) M M' hle (λj hj=>by
  have e2:(ps++[x]).getD j (0,[])=ps.getD j (0,[]):=by grind
  rw[e2];exact hK j hj) hx
 grind
def Le{ps:List ba}{x:ba}{q:Nat->ai}:cp (ps.length+1) (cy ps.length (CL ps q) (λj=>([[.int .i64 x.1,.val v]]:List (List C)).getD j [])) (CL (ps++[x]) (HJ q ps.length v)):=by
 intro j b;by_cases h:j<ps.length
 .have a:(ps++[x]).getD j (0,[])=ps.getD j (0,[]):=by grind
  simp only[cy,h,b5,CL,HJ,a,a9 (show j≠ps.length by omega)]
 .obtain rfl:j=ps.length:=by omega
  have e:(ps++[x]).getD ps.length (0,[])=x:=by simp
  simp only[cy,CL,HJ,e,b5];simp
abbrev XR(k by_ no:Int)(s:bk)(t:List bz)(rest:List Bs):Fr:=[(0,dI k),(2,dI by_),(3,cF.sl t),(5,.e (.one (.ptr 0 0))),(8,.e (.one (.ptr 1 0))),(10,.e (.one (.ptr 6 0))),(11,dI no),(12,dI (gF s)),(13,cS.sl rest)]
abbrev Of(s:bk)(ps:List ba)(q:Nat->ai):List bd:=[qN s,.cells 27 [g6,g6,g6],.buf 43 2 ps.length (CL ps q),.buf 39 2 s.2.1.length (eG.fn s.2.1),.buf 101 2 s.2.2.length (cH.fn s.2.2),.cf (PM (AI ps q ps.length)),.cells 27 [.bp 2 (.sl ps.length 2 0 ps.length),.bp 3 (.sl s.2.1.length 2 0 s.2.1.length),.bp 4 (.sl s.2.2.length 2 0 s.2.2.length)]]
def w5[X.ic](k:Int)(s:bk)(by_:Int)(t:List bz)(J:cB k=ab)(b:iM s)(z:GQ s)(y:rO t)(E:(eP s.1).length<=100000)(Z:∀p∈s.1,0<p.2.length){A:Bool}(I:tA k s t=A):
  dL (ι:=Nat->ai) X 85 [dI k,qg s,dI by_,cF.sl t] [] (λ_=>cond A (YX s ae) (.fw [.agg [.bp 0 (.sl (gV k s by_ t).1.length 2 0 (gV k s by_ t).1.length),.c (No (gV k s by_ t).2.1),.c (Np (gV k s by_ t).2.2)],.one (.c (.bool ab))]))
   (λq=>cond A [] [.buf 43 2 (gV k s by_ t).1.length (CL (gV k s by_ t).1 q),.cf (PM (AI (gV k s by_ t).1 q (gV k s by_ t).1.length))]):=by
 refine dL.n7 tok Tryz.func85 rfl rfl rfl λhf=>?_;have a:bA X [(107,J2),(106,JW),(109,O1)]:=.cons Q2 (.cons QZ (.cons T9 .nil));have h1:=b.p;have h2:=b.sn;have h3:=b.h;have hix:=BO E;refine cJ a rfl ar ?_;refine AK.cP (Ej s Z b.p b.p2 b.sn b.s2 b.h) [] rfl (λ_=>rfl) λq0=>?_;refine cJ a rfl ar ?_;refine AK.cQ (GR s b z) [] rfl ?_;refine cJ a rfl ?_ ?_
 .simp only[au,cP.list_fn,ou.list_fn,cF.list_fn,J,y];and_intros<;>first|exact cP.aO _|exact ou.aO _|exact cF.aO _|trivial|exact y|omega
 simp only[cP.list_fn,ou.list_fn,cF.list_fn];obtain⟨N,U⟩:=wi (k:=k) (l:=indexOf s.1) y;have hN:yf k s t=gO k (jE k t (indexOf s.1)).length (gh s) (jE k t (indexOf s.1)):=rfl;generalize jE k t (indexOf s.1)=pc at *;generalize P:yf k s t=np at *;have hpn:-4000000<=gh s/\gh s<=4000001:=by
  unfold gh;split
  .omega
  .rename_i h;have:=z.p _ (iv (show s.1.length-1<s.1.length by omega) (0,[]));omega
 have RS:np.length<=100000:=by grind[wh]
 refine AK.kp (S2:=Nat->ai) 0 rfl rfl (λ_=>True) (λ_=>[(0,dI k),(2,dI by_),(3,cF.sl t),(5,.e (.one (.ptr 0 0))),(8,.e (.one (.ptr 1 0))),(10,.e (.one (.ptr 6 0))),(11,dI (gh s+np.length)),(12,dI (gF s))]) (λq=>Of s (s.1++np) q) 7
  (λx:List Bs×List ba×(Nat->ai)=>(∀p∈x.1,bG p=ab)/\x.2.1.length+x.1.length<=5000000/\s.1.length<=x.2.1.length/\∃f,x.1.length<=f/\s.1++np=x.2.1++gO k f (gh s+(x.2.1.length-s.1.length:Nat)) x.1) (λx=>XR k by_ (gh s+(x.2.1.length-s.1.length:Nat)) s t x.1) (λx=>Of s x.2.1 x.2.2) (λx=>x.1.length) (pc,s.1,q0) rfl ?_ rfl ?_ rfl ⟨N,by grind,aZ _,pc.length,aZ _,by grind⟩ ?_ ?_
 .simp
 .simp
 .rintro out ⟨rest,ps,q⟩ ⟨F,g2,g3,f,g4,M⟩;simp only at F g2 g3 g4 M;by_cases h:0<rest.length
  .obtain⟨f,rfl⟩:∃f',f=f'+1:=⟨f-1,by omega⟩
   simp only[gO,bn h]at M;have W:bw .i64 ((min rest.length 4:Nat):Int):=by simp only[bw];omega
   refine bq a [(30,ab)] rfl (by simp only[au,bl];omega) ?_;refine AK.law (zV ((min rest.length 4:Nat):Int) rfl rfl rfl (JV rest.length 4) W) rfl rfl ?_;have L:cq rest.length (aa ((min rest.length 4:Nat):Int))-cq 0 af=min rest.length 4:=by simp[cq]
   have V:cp (rest.length-min rest.length 4) (kX (min rest.length 4) (cS.fn rest)) (cS.fn (rest.drop 4)):=by
    intro i hi;have h4:min rest.length 4=4:=by omega
    rw[h4];simp only[kX,jY.fn,xb,aj,oy]
   have hT:cp (cq rest.length (aa ((min rest.length 4:Nat):Int))-cq 0 af) (kX (cq 0 af) (cS.fn rest)) (cS.fn (rest.take 4)):=by intro i hi;rw[L]at hi;simp only[kX,cq,jY.fn,xb,aj,br];grind
   have hTl:(rest.take 4).length=min rest.length 4:=by grind
   have H:∀p∈rest.take 4,bG p=ab:=λp K=>F p (ji K);have G:=Ho (X:=X) (gh s+(ps.length-s.1.length:Nat)) k (rest.take 4) J H (by omega) (by omega);have hx0:o0 (gh s+(ps.length-s.1.length:Nat)) k (rest.take 4)=(gh s+(ps.length-s.1.length:Nat),xc k (rest.take 4)):=rfl;have u:0<(xc k (rest.take 4)).length:=by grind[Ab]
   generalize Wa:gh s+(ps.length-s.1.length:Nat)=no at *;have O:-5000000<=no/\no<=10000000:=by omega
   generalize hit:xc k (rest.take 4)=Lf at *;refine bq a [(1000006,ab)] rfl ar ?_;refine AK.Qg (ι:=Own Lf) di 7 9 12 (λj=>bu j 6)
    (λj=>([.e (.one (.ptr 6 0)),.e (.one (.bp 2 (.sl ps.length 2 0 ps.length))),dI no,dI k,cS.sl rest,dI (min rest.length 4:Nat),.e (.one (.c (.sl ae 1 (cq rest.length (aa ((min rest.length 4:Nat):Int))-cq 0 af) (kX (cq 0 af) (cS.fn rest)))))]:List D).getD j .any)
    (λr j=>match j with|7=>.e (.agg [.c (.int .i64 no),.c (Ac Lf r)])|_=>.e (.one (.c (.sl ab 2 1 (λj=>([[.int .i64 no,Ac Lf r]]:List (List C)).getD j []))))) (λr=>Of s ps q++[GS Lf r])
    rfl rfl rfl rfl rfl rfl rfl (λj h=>by have:=dJ h;omega) rfl
    ⟨OA.dr tok a rfl,OA.dr tok a rfl,OA.dr tok a rfl,OA.dr tok a rfl,OA.dr tok a rfl,OA.dr tok a rfl,OA.eval (ds:=[]) tok a rfl ?_,ar,ar,ar,ar,ar,ar⟩
    (λr=>⟨OA.dr tok a rfl,OA.dr tok a rfl,OA.dr tok a rfl,OA.dr tok a rfl,OA.dr tok a rfl,OA.dr tok a rfl,OA.eval (ds:=[]) tok a rfl ?_,ar,OA.dr tok a rfl,ar⟩)
    (oq.kW G [] rfl rfl rfl rfl ?_ rfl rfl rfl (λ_=>rfl) rfl (λ_=>rfl)) ?_
   .simp only[fE,au];omega
   .simp only[fE,au];omega
   .simp only[au.cat,au,aH,aE];grind
   intro r;refine bq a [(1000007,ab)] rfl ?_ ?_
   .simp only[au,show i43.bytes=32 from rfl,aH];omega
   refine AK.fact (iL.Tj (l:=7) (n:=Lf.length) (bf:=r.1.1) (xs:=r.1.2) rfl u) λR=>?_;refine AK.merge 5 7 (by decide) rfl rfl (λ_ _ h=>h.1) (PM.add (AI.snoc (x:=(no,Lf)) u r.2 R)) ?_;have e:=Le (ps:=ps) (x:=(no,Lf)) (q:=q) (v:=se r.1.1 Lf.length);have w:(ps++[(no,Lf)]).length=ps.length+1:=by simp
   refine cJ a rfl ?_ (AK.aQ (rest.drop 4,ps++[(no,Lf)],HJ q ps.length (se r.1.1 Lf.length)) rfl ?_ ?_ ?_ ?_)
   .simp only[au,bw,fE];omega
   .simp only[au.cat,au,w,qW,cq,bL,aH,aE];and_intros<;>first|rfl|omega|exactλ_ _=>rfl|exact V
   .simp only[au.cat,au,w,aH,aE];and_intros<;>first|rfl|exactλ_ _=>rfl|exact e|omega
   .refine⟨λp K=>F p (ug K),by grind,by grind,f,by grind,?_⟩;grind
   grind
  .have e:ps=s.1++np:=by rw[M];cases f<;>simp[gO,h]
   refine bq a [(30,ae)] rfl (by simp only[au,b7];omega) (AK.leaveD rfl rfl ?_);refine out q ar rfl ?_ rfl ?_
   .simp only[au.cat,au,e,cv,aH,aE];and_intros<;>first|rfl|omega|exactλ_ _=>rfl
   .simp[e]
 rintro q -;have g:tA k s t=(decide (20<s.1.length+np.length)||(decide (99<gh s+np.length-1)||(decide (20<gF s)||decide (9<=s.2.2.length)))):=by unfold tA;rw[P]
 rw[I]at g;have d:(s.1++np).length=s.1.length+np.length:=cv;have X5:-4000000<=gF s/\gF s<=4000001:=by
  have:=rS s.2.2 z.h;unfold gF;split
  .omega
  .have:=z.s _ (iv (show s.2.1.length-1<s.2.1.length by omega) (0,[]));omega
 cases A with
 |true =>
  apply AK.join [(5,.e (.one (.ptr 0 0))),(8,.e (.one (.ptr 1 0)))] (Of s (s.1++np) q)
  .intro out;by_cases c1:20<s.1.length+np.length
   .refine bq a [(53,ab),(1000010,ab)] rfl ?_ (out _ _ rfl (by simp));simp[d];omega
   by_cases c2:99<gh s+np.length-1
   .refine bq a [(53,ae),(57,ab),(1000010,ab)] rfl ?_ (out _ _ rfl (by simp));simp[d,bw];omega
   by_cases c3:20<gF s
   .refine bq a [(53,ae),(57,ae),(61,ab),(1000010,ab)] rfl ?_ (out _ _ rfl (by simp));simp[d,bw];omega
   refine bq a [(53,ae),(57,ae),(61,ae),(67,ab),(1000010,ab)] rfl ?_ (out _ _ rfl (by simp));simp[d,bw];grind
  refine cJ a rfl ar ?_;refine AK.cQ (wv s b.p b.p2 b.sn b.s2 b.h) [] rfl ?_;refine cJ a rfl ar ?_;refine AK.ON q [] rfl rfl rfl rfl rfl rfl rfl rfl rfl ?_ rfl rfl rfl rfl tU;simp
 |false =>
 have g:=g.symm;simp only[Bool.or_eq_false_iff,b7]at g;obtain⟨c1,c2,c3,c4⟩:=g;have L:=eG.cr s.2.1 (kM (gF s) k t);have S:=cH.cr s.2.2 (by_,gF s);have B:gV k s by_ t=(s.1++np,s.2.1++[kM (gF s) k t],s.2.2++[(by_,gF s)]):=by unfold gV;rw[P]
 rw[B];refine bq a [(53,ae),(57,ae),(61,ae),(67,ae),(1000013,ab)] rfl ?_ ?_
 .simp only[au,J,cF.list_fn,d,bw,show i39.bytes=32 from rfl,show i101.bytes=16 from rfl,bl,b7,aH,aE];and_intros<;>first|exact y|exact cF.aO _|rfl|omega
 generalize s.1++np=ps at *;generalize Q:s.2.1++[kM (gF s) k t]=sw at *;generalize Y:s.2.2++[(by_,gF s)]=hw at *;have m:sw.length=s.2.1.length+1:=by grind
 have o:hw.length=s.2.2.length+1:=by grind
 refine AK.IU (φ':=[(8,.e (.one (.ptr 1 0))),(10,.e (.one (.ptr 6 0)))]) (σ':=[qN s,.cells 27 [g6,g6,g6],.buf 43 2 ps.length (CL ps q),.buf 39 2 sw.length (eG.fn sw),.buf 101 2 hw.length (cH.fn hw),.cf (PM (AI ps q ps.length)),.cells 27 [.bp 2 (.sl ps.length 2 0 ps.length),.bp 3 (.sl sw.length 2 0 sw.length),.bp 4 (.sl hw.length 2 0 hw.length)]]) ?_ rfl ?_ rfl ?_
 .refine AK.ru 3 rfl rfl rfl (by simp) (by simp) ?_;refine AK.ru 4 rfl rfl rfl (by simp) (by simp) ?_;refine bx rfl ar ?_;refine AK.ON q [2,5] rfl rfl rfl rfl rfl rfl rfl rfl rfl ?_ rfl rfl rfl rfl (λj T=>absurd T (by simp));simp[sk]
 .simp
 .simp only[au.cat,au,m,o,cF.list_fn,aH,aE];and_intros<;>first|exact cp.same|exact L|exact S|rfl
abbrev RO(v:ai)(ps:List ba):Mem->Prop:=λM=>Rd M v (.sl ae 2 ps.length (cP.fn ps))
def Ek[X.ic](k:Int)(s:bk)(by_:Int)(t:List bz)(l:cB k=ab)(n:iM s)(m:GQ s)(g:rO t)(b:(eP s.1).length<=100000)(o:∀p∈s.1,0<p.2.length)(d:tA k s t=ae):
  dL (ι:=ai) X 85 [dI k,qg s,dI by_,cF.sl t] [.cf (iL 43 2 (.nil af) 0 [])] (λv=>.fw [.agg [.c (.val v),.c (No (gV k s by_ t).2.1),.c (Np (gV k s by_ t).2.2)],.one (.c (.bool ab))])
   (λv=>[.cf (PM (RO v (gV k s by_ t).1))]):=by
 refine dL.Tk (dL.AG (cP.fn (gV k s by_ t).1) (w5 k s by_ t l n m g b o d) (λq M M' hle hK j f=>(hK j f).mono hle) λq M hK j f=>?_) (λ_ _ _ h=>h.1) (λ_=>rfl) (λ_=>rfl) rfl rfl;have hK:=hK j f;generalize(gV k s by_ t).1=ps at *;have e:cP.fn ps j=[.int .i64 (ps.getD j (0,[])).1,sP (ps.getD j (0,[]))]:=rfl;rw[e];refine⟨rfl,λp c a=>?_⟩
 match p,a with
 |0,a=>cases a;exact⟨_,rfl,λv i h=>by cases h with|int h=>exact .int h⟩
 |1,a=>cases a;exact⟨_,rfl,λv i h=>by grind[Rd.fj]⟩
def GL(l:List Int):Ev X 35 [cI.sl l,cI.sl l] [] (dB ab) []:=by
 refine Ev.bQ Tryz.func35 rfl λa=>?_;have b:=a.sl 0 rfl;refine aW [(10,ae)] rfl (by simp) ?_;refine AK.bY 0 (λi=>i<=l.length) (λi:Nat=>[(0,cI.sl l),(1,cI.sl l),(5,dI i)]) (λ_=>[]) (λi=>l.length-i) 0 rfl (by simp) rfl (by simp) rfl (by omega) ?_;intro i hi;by_cases h:i<l.length
 .refine bF [(14,ab),(25,ae)] rfl ?_ (AK.aQ (i+1) rfl ?_ ?_ ?_ ?_)
  .simp only[au,bw,jQ,kG,mq,bl,aH,aE];and_intros<;>omega
  .simp
  .simp
  .grind
  .omega
 .refine bF [(14,ae)] rfl (by simp;omega) (AK.leaveD rfl rfl ?_);exact c9 rfl ar (AK.bo rfl)
abbrev Q0:dy:=oa (aL cI) (aL cI) (λ_ _=>dB ab) λa b=>[b=a]
def Ub:dM X 35 Q0:=.qC λa b h=>by have:b=a:=h;subst this;exact GL _
def JZ(l:List (Int×Int)):Ev X 45 [cH.sl l,cH.sl l] [] (dB ab) []:=by
 refine Ev.bQ Tryz.func45 rfl λa=>?_;have b:=a.sl 0 rfl;refine aW [(10,ae)] rfl (by simp) ?_;refine AK.bY 0 (λi=>i<=l.length) (λi:Nat=>[(0,cH.sl l),(1,cH.sl l),(5,dI i)]) (λ_=>[]) (λi=>l.length-i) 0 rfl (by simp) rfl (by simp) rfl (by omega) ?_;intro i hi;by_cases h:i<l.length
 .refine bF [(14,ab),(25,ae)] rfl ?_ (AK.aQ (i+1) rfl ?_ ?_ ?_ ?_)
  .simp[bw,h];omega
  .simp
  .simp
  .grind
  .omega
 .refine bF [(14,ae)] rfl (by simp;omega) (AK.leaveD rfl rfl ?_);exact c9 rfl ar (AK.bo rfl)
abbrev Uc:dy:=oa (aL cH) (aL cH) (λ_ _=>dB ab) λa b=>[b=a]
def Xr:dM X 45 Uc:=.qC λa b h=>by have:b=a:=h;subst this;exact JZ _
abbrev pB(p:ba):bd:=.cells 43 [.c (.int .i64 p.1),.c (.sl ae 2 p.2.length (er.fn p.2))]
def GM(p:ba):Ev X 13 [xa p,xa p] [] (dB ab) []:=by
 refine Ev.bQ Tryz.func13 rfl λl=>?_;by_cases n:p.2.length<=9223372036854775807
 .refine aW [(10,ae),(18,ae)] rfl (by simp) ?_;refine AK.bY 2 (λi=>i<=p.2.length) (λi:Nat=>[(2,.e (.one (.ptr 0 0))),(3,.e (.one (.ptr 1 0))),(5,dI i)]) (λ_=>[pB p,pB p]) (λi=>p.2.length-i) 0 rfl (by simp) rfl (by simp) rfl (by omega) ?_;intro i hi;by_cases h:i<p.2.length
  .refine bF [(24,ab),(37,ae)] rfl ?_ (AK.aQ (i+1) rfl ?_ ?_ ?_ ?_)
   .simp[bw,h];omega
   .simp
   .simp
   .grind
   .omega
  .refine bF [(24,ae)] rfl (by simp;omega) (AK.leaveD rfl rfl ?_);exact c9 rfl ar (AK.bo rfl)
 .exfalso;obtain⟨s,vs,d,_⟩:=l;obtain⟨q,m⟩:∃v,dk [] s v (xa p):=by
   match vs,d with
   |[a,_],d=>exact⟨a,d.1⟩
  obtain⟨k,_,g⟩:=m
  match k,g with
  |[a,c],g =>
   have:=g.2.1;cases(show Rd s.M c (.sl ae 2 p.2.length (er.fn p.2))from this)with
   |sl b off f j o=>omega
abbrev Ud:dy:=oa (CK er) (CK er) (λ_ _=>dB ab) λa b=>[b=a]
def Xs:dM X 13 Ud:=.qC λa b h=>by have:b=a:=h;subst this;exact GM _
abbrev sB(p:cC):bd:=.cells 39 [.c (.int .i64 p.1),.c (.sl ae 2 p.2.length (cL.fn p.2))]
def GN(x:cC)(c:x.2.length<=4000000):Ev X 46 [BH x,BH x] [] (dB ab) []:=by
 refine Ev.bQ Tryz.func46 rfl λb=>?_;have a:bA X [(35,Q0)]:=.cons Ub .nil;refine aR a [(10,ae),(18,ae)] rfl (by simp) ?_;refine AK.bY 2 (λi=>i<=x.2.length) (λi:Nat=>[(2,.e (.one (.ptr 0 0))),(3,.e (.one (.ptr 1 0))),(5,dI i)]) (λ_=>[sB x,sB x]) (λi=>x.2.length-i) 0 rfl (by simp) rfl (by simp) rfl (by omega) ?_;intro i hi;by_cases h:i<x.2.length
 .refine bq a [(24,ab),(39,ae),(53,ab)] rfl ?_ (AK.aQ (i+1) rfl ?_ ?_ ?_ ?_)
  .simp only[au,bw,jQ,kG,mq,bl,aH,aE];and_intros<;>first|exact cI.aO _|omega
  .simp
  .simp
  .grind
  .omega
 .refine bq a [(24,ae)] rfl (by simp;omega) (AK.leaveD rfl rfl ?_);exact cJ a rfl ar (AK.bo rfl)
abbrev Ue:dy:=oa (CK cL) (CK cL) (λ_ _=>dB ab) λa b=>[b=a,b.2.length<=4000000]
def Xt:dM X 46 Ue:=.qC λa b h=>by obtain⟨rfl,c⟩:b=a/\_:=h;exact GN _ c
abbrev Nx(s:bk):bd:=.cells 27 [.c (.sl ae 2 s.1.length (cP.fn s.1)),.c (.sl ae 2 s.2.1.length (eG.fn s.2.1)),.c (.sl ae 2 s.2.2.length (cH.fn s.2.2))]
def DV(s:bk)(b:iM s):Ev X 18 [qg s,qg s] [] (dB ab) []:=by
 refine Ev.bQ Tryz.func18 rfl λf=>?_;have a:bA X [(45,Uc),(13,Ud),(46,Ue)]:=.cons Xr (.cons Xs (.cons Xt .nil));have d:=b.p;have j:=b.sn;refine bq a [(13,ae),(21,ae),(28,ab)] rfl ?_ ?_
 .simp only[au,bw,jQ,kG,mq,bl,aH,aE];and_intros<;>first|exact cH.aO _|omega
 refine AK.bY 2 (λi=>i<=s.1.length) (λi:Nat=>[(2,.e (.one (.ptr 0 0))),(3,.e (.one (.ptr 1 0))),(5,dI i)]) (λ_=>[Nx s,Nx s]) (λi=>s.1.length-i) 0 rfl (by simp) rfl (by simp) rfl (by omega) ?_;intro i hi;by_cases h:i<s.1.length
 .refine bq a [(35,ab),(48,ab)] rfl ?_ (AK.aQ (i+1) rfl ?_ ?_ ?_ ?_)
  .simp only[au,bw,bl,aH,aE];and_intros<;>first|exact er.aO _|omega
  .simp
  .simp
  .grind
  .omega
 refine bq a [(35,ae)] rfl (by simp;omega) (AK.leaveD rfl rfl ?_);refine cJ a rfl ar ?_;refine AK.bY 2 (λi=>i<=s.2.1.length) (λi:Nat=>[(2,.e (.one (.ptr 0 0))),(3,.e (.one (.ptr 1 0))),(6,dI i)]) (λ_=>[Nx s,Nx s]) (λi=>s.2.1.length-i) 0 rfl (by simp) rfl (by simp) rfl (by omega) ?_;intro i hi;by_cases h:i<s.2.1.length
 .have g:=(b.s2 _ (iv h (0,[]))).1;have c:s.2.1.getD (i:Int).toNat eG.bR=s.2.1.getD i (0,[]):=by grind
  refine bq a [(54,ab),(67,ab)] rfl ?_ (AK.aQ (i+1) rfl ?_ ?_ ?_ ?_)
  .simp only[au,bw,c,cL.list_fn,bl,aH,aE];and_intros<;>first|exact cL.aO _|omega
  .simp
  .simp
  .grind
  .omega
 refine bq a [(54,ae)] rfl (by simp;omega) (AK.leaveD rfl rfl ?_);exact cJ a rfl ar (AK.bo rfl)
end
def yA{l:List Int}:∀{k:Nat},(jK l k).length=k->∀i,1<=i->i<k->l.getD i 0≠l.getD (i-1) 0
 |0,_,i,_,h=>by omega
 |k+1,h,i,a,c=>by
  have b:=rX l k;rw[jK]at h;split at h
  .omega
  .rename_i d;simp only[cv,e9]at h;by_cases e:i=k
   .grind
   .exact yA (k:=k) (by omega) i a (by omega)
def Am(l:List Int):(ky l).Pairwise λx y=>x<=y:=by have:=List.pairwise_mergeSort (le:=λx y:Int=>decide (x<=y)) (λa b c e d=>by grind) (λa b=>by grind) l;exact this.imp λh=>by grind
def nS(l:List Int):(ky l).Perm l:=List.mergeSort_perm _ _
def Ai(l:List Int):(dY (ky l)).length=l.length↔l.Nodup:=by
 rw[<-fh l,<-(nS l).nodup_iff];have f:=Am l;generalize ky l=s at *;have b:∀{i:Nat} (h:i<s.length),s.getD i 0=s[i]:=λ{i} h=>by grind
 constructor
 .intro h;have d:=yA h;refine List.Pairwise.imp (R:=λx y=>x<y) (λh e=>by omega) (mm.2 λi j hi hj XA=>?_);have a:=mm.1 f;have c:=d j (by omega) hj;rw[b hj,b (by omega)]at c;have g:=a (j-1) j (by omega) hj (by omega);by_cases e:i=j-1
  .grind
  .have:=a i (j-1) hi (by omega) (by omega);omega
 .intro h;unfold dY;rw[m9 (aZ _),cO];grind[List.pairwise_iff_getElem]
structure Ux(x:ba):Prop where
 ex:∃no ps,1<=no/\no<=99/\0<ps.length/\ps.length<=4/\(∀q∈ps,bG q=ab)/\x=o0 no 7 ps
structure Uy(x:cC):Prop where
 ex:∃no t,1<=no/\no<=20/\dq t=ab/\x=kM no 7 t
structure D7(st:bk):Prop where
 p:∀x∈st.1,Ux x
 pl:st.1.length<=20
 s:∀x∈st.2.1,Uy x
 xu:st.2.1.Pairwise λa b=>a.1<b.1
 h:∀x∈st.2.2,(1<=x.1/\x.1<=2)/\1<=x.2/\x.2<=20
 hl:st.2.2.length<=9
 Uz:st.1.Pairwise λa b=>a.1<b.1
def mg{t:List bz}(h:dq t=ab):rO t:=by
 obtain⟨j,_,_,n⟩:=pd.1 h;have k:∀f∈t,b6 f.2=ab/\f.2.length<=40:=λf d=>by have:=(j f d).2;simp only[ef,bS,bl]at this;grind
 refine⟨by omega,λf d=>⟨(k f d).1,by grind⟩,?_⟩;have:∀l:List bz,(∀f∈l,f.2.length<=40)->(jZ l).length<=40*l.length:=by
  intro l;induction l with
  |nil=>intro _;simp[jZ]
  |cons f r i =>
   intro e;have a:=i λg m=>e g (kE _ m);have b:=e f iA;have c:=nL f.2;simp only[jZ,oA,cv,gb]at a⊢;omega
 grind
theorem Ky(no k:Int)(ps:List Bs):(o0 no k ps).2.length=ps.length:=Ab k ps
def Ux.len{x:ba}(h:Ux x):1<=x.2.length/\x.2.length<=4:=by obtain⟨no,ps,_,_,b,a,_,rfl⟩:=h.ex;grind[Ky]
def Ux.no{x:ba}(h:Ux x):1<=x.1/\x.1<=99:=by obtain⟨no,ps,h1,h2,_,_,_,rfl⟩:=h.ex;exact⟨h1,h2⟩
def Uy.no{x:cC}(h:Uy x):1<=x.1/\x.1<=20:=by obtain⟨no,t,h1,h2,_,rfl⟩:=h.ex;exact⟨h1,h2⟩
def Uy.len{x:cC}(h:Uy x):x.2.length<=6/\∀y∈x.2,y.2.length<=4000000:=by obtain⟨no,t,_,_,a,rfl⟩:=h.ex;have c:=nR a;refine⟨by simpa[kM]using c,λy b=>?_⟩;simp only[kM,jS]at b;obtain⟨f,d,rfl⟩:=b;have:=((mg a).tZ f d).2;have:=nL f.2;simp only[wu,mx];omega
def NT{l:List cC}:∀(a:Int),l.Pairwise (λa b=>a.1<b.1)->(∀x∈l,a<=x.1/\x.1<=20)->(l.length:Int)<=max 0 (21-a):=by
 induction l with
 |nil=>grind
 |cons x r d =>
  intro a e c;obtain⟨h,f⟩:=mo.1 e;have i:=c x iA;have:=d (x.1+1) f λy g=>⟨by grind,(c y (kE _ g)).2⟩
  grind
def D7.sl{s:bk}(h:D7 s):s.2.1.length<=20:=by have:=NT 1 h.xu λx a=>(h.s x a).no;omega
def D7.size{s:bk}(h:D7 s):iM s:=by have h1:=h.pl;have h2:=h.sl;have c:=h.hl;refine⟨by omega,λp a=>by have:=(h.p p a).len;omega,by omega,λx b=>?_,by omega⟩;have:=(h.s x b).len;grind
def D7.num{s:bk}(h:D7 s):GQ s :=
 ⟨λx a=>by have:=(h.p x a).no;omega,λx a=>by have:=(h.s x a).no;omega,λx a=>by have:=(h.h x a).2;omega⟩
def D7.eP{s:bk}(h:D7 s):(eP s.1).length<=100000:=by
 have:∀l:List ba,(∀x∈l,x.2.length<=4)->(R1.eP l).length<=4*l.length:=by
  intro l;induction l with
  |nil=>intro _;simp[R1.eP]
  |cons f r d =>
   intro hl;have a:=d λg e=>hl g (kE _ e);have b:=hl f iA;simp only[R1.eP,oA,cv,mx,gb]at a⊢;omega
 have:=this s.1 λx c=>(h.p x c).len.2;have:=h.pl;omega
def D7.nil:D7 ([],[],[]):=⟨by simp,by simp,by simp,by simp,by simp,by simp,by simp⟩
def yz(k:Int):∀(f:Nat) (no:Int)(ps:List Bs),(∀q∈ps,bG q=ab)->∀x∈gO k f no ps,∃a qs,no<=a/\a<no+(gO k f no ps).length/\0<qs.length/\qs.length<=4/\(∀q∈qs,bG q=ab)/\x=o0 a k qs
 |0,_,_,_,x,b=>by simp[gO]at b
 |f+1,no,ps,d,x,b=>by
  simp only[gO]at b⊢;split at b
  .rename_i h;rw[bn h];rcases dK.1 b with rfl|b
   .grind
   .obtain⟨a,qs,g,i,e⟩:=yz k f (no+1) (ps.drop 4) (λq c=>d q (ug c)) x b;grind
  grind
def Hd{l:List α}(h:l.length≠0)(d:α):l.getD (l.length-1) d∈l:=iv (by omega) d
def D7.gh{s:bk}(h:D7 s):1<=gh s:=by
 unfold R1.gh;split
 .omega
 .rename_i a;have:=(h.p _ (Hd a (0,[]))).no;omega
def sZ(k:Int):∀(f:Nat) (no:Int)(ps:List Bs),∀x∈gO k f no ps,no<=x.1
 |0,_,_,x,a=>by simp[gO]at a
 |f+1,no,ps,x,a=>by
  simp only[gO]at a;split at a
  .rcases dK.1 a with rfl|a
   .exact Int.le_refl _
   .have:=sZ k f (no+1) (ps.drop 4) x a;omega
  grind
def wL(k:Int):∀(f:Nat) (no:Int)(ps:List Bs),(gO k f no ps).Pairwise λa b=>a.1<b.1
 |0,_,_=>by simp[gO]
 |f+1,no,ps=>by
  simp only[gO];split
  .refine mo.2 ⟨λx c=>?_,wL k f (no+1) (ps.drop 4)⟩;have:=sZ k f (no+1) (ps.drop 4) x c;show no<x.1;omega
  .simp
def D7.Kz{s:bk}(h:D7 s):∀x∈s.1,x.1<R1.gh s:=by
 unfold R1.gh;split
 .grind
 .rename_i e;intro x c;obtain⟨i,hi,rfl⟩:=dN c;have a:s.1.getD (s.1.length-1) (0,[])=s.1[s.1.length-1]:=by grind
  rw[a];rcases cA i (s.1.length-1)with b|d
  .have:=mm.1 h.Uz i (s.1.length-1) hi (by omega) b;omega
  grind
def D7.KA{s:bk}(h:D7 s):1<=gF s/\∀x∈s.2.1,x.1<gF s:=by
 have hb:=rS s.2.2 h.num.h;unfold gF;split
 .grind
 .rename_i e;refine⟨by omega,λx c=>?_⟩;obtain⟨i,hi,rfl⟩:=dN c;have a:s.2.1.getD (s.2.1.length-1) (0,[])=s.2.1[s.2.1.length-1]:=by grind
  rw[a];rcases cA i (s.2.1.length-1)with b|d
  .have:=mm.1 h.xu i (s.2.1.length-1) hi (by omega) b;omega
  grind
def D7.save{s:bk}{t:List bz}{by_:Int}(h:D7 s)(i:dq t=ab)(hb:1<=by_/\by_<=2)(j:tA 7 s t=ae):D7 (gV 7 s by_ t):=by
 simp only[tA,Bool.or_eq_false_iff,b7]at j;obtain⟨r,m,q,n⟩:=j;have o:=h.gh;obtain⟨e,g⟩:=h.KA;refine⟨λx c=>?_,by simp only[gV,cv];omega,λx c=>?_,?_,λx c=>?_,by simp only[gV,cv,e9];omega,?_⟩
 .simp only[gV]at c;rcases fz.1 c with c|c
  .exact h.p x c
  .obtain⟨d,qs,a1,a2,a3,a4,a5,a6⟩:=yz 7 _ _ _ (wi (k:=7) (l:=indexOf s.1) (mg i)).1 x c;have a2:d<R1.gh s+(yf 7 s t).length:=a2;exact⟨d,qs,by omega,by omega,a3,a4,a5,a6⟩
 .simp only[gV]at c;rcases fz.1 c with c|c
  .exact h.s x c
  .rw[iT]at c;exact⟨gF s,t,e,by omega,i,c⟩
 .simp only[gV];rw[po];refine⟨h.xu,by simp,λa f b hb=>?_⟩;rw[iT]at hb;subst hb;exact g a f
 .simp only[gV]at c;rcases fz.1 c with c|c
  .exact h.h x c
  grind
 .simp only[gV];rw[po];refine⟨h.Uz,wL _ _ _ _,λa f b hb=>?_⟩;have h1:=h.Kz a f;have h2:=sZ _ _ _ _ b hb;omega
def yB(n m:Int):∀(l:List Int)(a:List Int)(b:Bool),(b=ab->n∈a) ->
  ((m∈(l.foldl (gu n) (a,b)).1∨(m=n/\(l.foldl (gu n) (a,b)).2=ae))↔((m∈a∨(m=n/\b=ae))∨m∈l))
 |[],a,b,_=>by simp
 |y::l,a,b,h=>by
  rw[iB];have one:∀a' b',gu n (a,b) y=(a',b')->(b'=ab->n∈a')/\((m∈a'∨(m=n/\b'=ae))↔((m∈a∨(m=n/\b=ae))∨m=y)):=λa' b' e=>by unfold gu at e;grind
  cases d:gu n (a,b) y with
  |mk a' b' =>
   obtain⟨f,c⟩:=one a' b' d;rw[yB n m l a' b' f,c,dK,or_assoc]
def KB{l:List Int}{n m:Int}:m∈k6 l n↔m∈l∨m=n:=by have:=yB n m l [] ae (by simp);unfold k6;grind
def s8{m:Int}:∀{l a:List Int},m∈l.foldl k6 a↔m∈a∨m∈l
 |[],a=>by simp
 |x::l,a=>by rw[iB,s8,KB,dK,or_assoc]
def Ed{l:List gz}{m:Int}:m∈gj l↔m∈bT l:=by unfold gj;rw[s8];simp
def yC{m:Int}:∀{l:List cC}{a:List Int},m∈l.foldl (λout x=>(gj x.2).foldl k6 out) a↔m∈a∨∃x∈l,m∈bT x.2
 |[],a=>by simp
 |x::l,a=>by rw[iB,yC,s8,Ed,or_assoc];simp
def iw{l:List cC}{m:Int}:m∈dz l↔∃x∈l,m∈bT x.2:=by unfold dz;rw[yC];simp
def Cf{l:List Int}{m:Int}:∀{j:Nat},j<=l.length->(m∈jK l j↔m∈l.take j)
 |0,_=>by simp[jK]
 |j+1,h=>by
  have b:=Cf (l:=l) (m:=m) (j:=j) (by omega);rw[jK,bt (by omega) 0];split
  .rename_i c;rw[b,fz];constructor
   .exact .inl
   .rintro(a|a)
    .exact a
    .simp only[iT]at a;subst a;rw[c.2,aj,bm (by omega)];exact ll.2 ⟨j-1,by simp;omega,by simp⟩
  grind
def qI{x:cC}{m:Int}:m∈et x↔m∈bT x.2:=by unfold et dY;rw[Cf (aZ _),cO];exact(nS _).mem_iff
def Hb{l:List cC}{p:Int->Bool}:(dz l).all p=(bh l.length).all λi=>!(et (l.getD i (0,[]))).any λn=>!p n:=by
 rw[pv,List.all_eq_true,dg];constructor
 .intro h i hi;rw[iU,List.any_eq_false];intro n a;have:=h n (iw.2 ⟨_,gI hi,qI.1 a⟩);simp[this]
 .intro h n a;obtain⟨x,d,c⟩:=iw.1 a;obtain⟨i,hi,rfl⟩:=ll.1 d;have b:=h i hi;rw[aj,bm hi,ga,iU,List.any_eq_false]at b;simpa using b n (qI.2 c)
def uI{l:List α}(h:i<l.length)(d:α):l.getD i d=l[i]:=by grind
def uJ{f:α->Int}{d:α}{l:List α}:(∀i,i<l.length->xu f d l i=ab)↔l.Pairwise λx y=>f x<f y:=by
 constructor
 .intro h;have key:∀n i j (hi:i<l.length) (a:j<l.length),j=i+n->0<n->f l[i]<f l[j]:=by
   intro n;induction n with
   |zero=>grind
   |succ n g =>
    intro i j hi a b _;have c:=h j a;rw[nO (by omega),decide_eq_true_iff,uI (by omega),uI a]at c;by_cases e:n=0
    .subst e;grind
    grind
  exact mm.2 λi j hi a b=>key (j-i) i j hi a (by omega) (by omega)
 .intro h i hi;by_cases e:i=0
  .subst e;rfl
  .rw[nO e,decide_eq_true_iff,uI (by omega),uI hi];exact(mm.1 h) (i-1) i (by omega) hi (by omega)
def uK{l:List α}{p:α->Bool}{d:α}:(∀i,i<l.length->p (l.getD i d)=ab)↔∀x∈l,p x=ab:=by grind[List.mem_iff_getElem]
structure FI(k:Int)(p:ba):Prop where
 no:1<=p.1/\p.1<=99
 key:cB k=ab
 len:1<=p.2.length/\p.2.length<=4
 rt:∀x∈p.2,right k x=ab
 xu:p.2.Pairwise λx y=>x.1<y.1
def wM{k:Int}{p:ba}:iX k p=ab↔FI k p:=by
 rw[o7];simp only[bS,bl,dg];have e:(∀i,i<p.2.length->iy k p i=ab)↔(∀x∈p.2,right k x=ab)/\p.2.Pairwise λx y=>x.1<y.1:=by
  rw[<-uK (d:=(0,[])),<-uJ (f:=λx:cn=>x.1) (d:=(0,[]))];constructor
  .intro h;exact⟨λi hi=>by have:=h i hi;simp only[iy,bS]at this;exact this.1,λi hi=>by have:=h i hi;simp only[iy,bS]at this;exact this.2⟩
  .intro h i hi;simp only[iy,bS];exact⟨h.1 i hi,h.2 i hi⟩
 rw[e];constructor
 .rintro⟨⟨⟨b,g⟩,a⟩,c,j⟩;exact⟨b,g,a,c,j⟩
 .rintro⟨b,g,a,c,j⟩;grind
structure wN(k:Int)(s:bk):Prop where
 pk:∀p∈s.1,FI k p
 pa:s.1.Pairwise λp q=>p.1<q.1
 nd:(bC s.1).Nodup
 sn:∀x∈s.2.1,(1<=x.1/\x.1<=20)/\(cj k x s.1).isSome=ab
 sa:s.2.1.Pairwise λx y=>x.1<y.1
 key:cB k=ab
 log:o8 s.2.2=ab
 len:s.1.length<=20
def pe{k:Int}{s:bk}:fN k s=ab↔wN k s:=by
 unfold fN;simp only[bS,bl,dg];have o:(∀i,i<s.1.length->lN k s.1 i=ab)↔(∀p∈s.1,FI k p)/\s.1.Pairwise λp q=>p.1<q.1:=by
  rw[<-uJ (f:=λp:ba=>p.1) (d:=(0,[]))];have:(∀p∈s.1,FI k p)↔∀p∈s.1,iX k p=ab:=⟨λh p b=>wM.2 (h p b),λh p b=>wM.1 (h p b)⟩
  rw[this,<-uK (d:=(0,[]))];constructor
  .intro h;exact⟨λi hi=>by have:=h i hi;simp only[lN,bS]at this;exact this.1,λi hi=>by have:=h i hi;simp only[lN,bS]at this;exact this.2⟩
  .intro h i hi;simp only[lN,bS];grind
 have r:(∀i,i<s.2.1.length->jG k s i=ab)↔(∀x∈s.2.1,(1<=x.1/\x.1<=20)/\(cj k x s.1).isSome=ab)/\s.2.1.Pairwise λx y=>x.1<y.1:=by
  rw[<-uJ (f:=λp:cC=>p.1) (d:=(0,[]))];have:(∀x∈s.2.1,(1<=x.1/\x.1<=20)/\(cj k x s.1).isSome=ab)↔∀x∈s.2.1,(decide (1<=x.1/\x.1<=20)&&(cj k x s.1).isSome)=ab:=by grind
  rw[this,<-uK (d:=(0,[]))];constructor
  .intro h;exact⟨λi hi=>by have:=h i hi;simp only[jG,bS]at this⊢;grind,λi hi=>by have:=h i hi;simp only[jG,bS]at this;exact this.1.2⟩
  .intro h i hi;have a:=h.1 i hi;simp only[jG,bS]at a⊢;grind
 rw[o,r];constructor
 .rintro⟨⟨⟨⟨⟨⟨a,m⟩,c⟩,j,n⟩,l⟩,e⟩,g⟩;exact⟨a,m,c,j,n,l,e,g⟩
 .rintro⟨a,m,c,j,n,l,e,g⟩;grind
structure mH(k:Int)(w:c7):Prop extends wN k w.1 where
 mk':∀x∈w.1.2.1,∀n∈bT x.2,n∈w.2.1
 lp:∀n∈w.2.2,∃p∈w.1.1,p.1=n
 la:w.2.2.Pairwise λx y=>x<y
def tF{k:Int}{w:c7}:mf k w=ab↔mH k w:=by
 unfold mf;simp only[bS,pe,dg];have l:(dz w.1.2.1).all (λn=>w.2.1.contains n)=ab↔∀x∈w.1.2.1,∀n∈bT x.2,n∈w.2.1:=by
  rw[List.all_eq_true];constructor
  .intro h x e n a;simpa using h n (iw.2 ⟨x,e,a⟩)
  .intro h n a;obtain⟨x,e,a⟩:=iw.1 a;grind
 have m:(∀i,i<w.2.2.length->nP w.1.1 w.2.2 i=ab)↔(∀n∈w.2.2,∃p∈w.1.1,p.1=n)/\w.2.2.Pairwise λx y=>x<y:=by
  rw[<-uJ (f:=λn:Int=>n) (d:=0)];have:(∀n∈w.2.2,∃p∈w.1.1,p.1=n)↔∀n∈w.2.2,(w.1.1.any λp=>p.1==n)=ab:=by simp
  rw[this,<-uK (d:=0)];constructor
  .intro h;exact⟨λi hi=>by have:=h i hi;simp only[nP,bS]at this;exact this.1,λi hi=>by have:=h i hi;simp only[nP,bS]at this;exact this.2⟩
  .intro h i hi;simp only[nP,bS];grind
 rw[l,m];constructor
 .rintro⟨⟨c,j,b⟩,g⟩;exact⟨g,c,j,b⟩
 .rintro⟨g,c,j,b⟩;grind
def iZ(no:Int)(ms:List Int)(p:ba):ba:=if p.1=no then cD p ms else p
def eT(no:Int)(ms:List Int)(ps:List ba):List ba:=(ps.map (iZ no ms)).filter λp=>!p.2.isEmpty
def qJ(w:c7):c7:=match w.2.2 with
 |[]=>w
 |no::r=>((eT no w.2.1 w.1.1,w.1.2),w.2.1,r)
def He{l:List cn}{ms:List Int}{n:Int}(h:n∈ms):(l.filter λx=>ms.contains x.1).find? (λx=>x.1==n)=l.find? (λx=>x.1==n):=by grind
def An{k no:Int}{ms:List Int}{p:ba}{n:Int}(h:n∈ms):dt k (iZ no ms p) n=dt k p n:=by
 unfold iZ;split
 .simp only[dt,cD,He h]
 .rfl
def wO{k no:Int}{ms:List Int}{n:Int}(h:n∈ms):∀ps:List ba,c6 k (eT no ms ps) n=c6 k ps n
 |[]=>rfl
 |p::ps=>by
  have c:=wO (k:=k) (no:=no) h ps;have a:=An (k:=k) (no:=no) (p:=p) h;unfold eT c6 at *;rw[jl,nn];split
  .grind
  .rename_i b;have b:(iZ no ms p).2=[]:=by grind
   have:dt k p n=af:=by rw[<-a];unfold dt;grind
   grind
def wP{k:Int}{ps qs:List ba}{ns:List Int}(h:∀n∈ns,c6 k ps n=c6 k qs n):dD k ps ns=dD k qs ns:=by unfold dD;grind[List.map_congr_left]
def wQ{k:Int}{ps qs:List ba}{x:cC}(h:∀n∈bT x.2,c6 k ps n=c6 k qs n):cj k x ps=cj k x qs:=by
 have c:∀y∈x.2,fileOf k ps y=fileOf k qs y:=λy b=>by unfold fileOf;rw[wP λn a=>h n (qV.2 ⟨y,b,a⟩)]
 unfold cj cZ;grind[List.map_congr_left]
theorem yD{no:Int}{ms:List Int}{p:ba}:(iZ no ms p).1=p.1:=by unfold iZ cD;split<;>rfl
def wR{no:Int}{ms:List Int}{p:ba}:List.Sublist (iZ no ms p).2 p.2:=by unfold iZ cD;split<;>simp
def wS{no:Int}{ms:List Int}{ps:List ba}{q:ba}(h:q∈eT no ms ps):∃p∈ps,q=iZ no ms p/\q.2≠[]:=by unfold eT at h;grind
def wT{no:Int}{ms:List Int}:∀ps:List ba,List.Sublist (bC (eT no ms ps)) (bC ps)
 |[]=>.refl _
 |p::ps=>by
  have a:=wT (no:=no) (ms:=ms) ps;unfold eT bC at *;rw[jl,nn,oA];split
  .rw[oA];exact(wR.map _).append a
  grind
def mH.step{k:Int}{w:c7}(h:mH k w):mH k (qJ w):=by
 unfold qJ;split
 .exact h
 rename_i no r hl;have e:=h.lp;have a:=h.la;rw[hl]at e a;have m:∀x∈w.1.2.1,cj k x (eT no w.2.1 w.1.1)=cj k x w.1.1:=λx b=>wQ λn g=>wO (h.mk' x b n g) _;refine⟨⟨λq j=>?_,?_,h.nd.sublist (wT _),λx b=>?_,h.sa,h.key,h.log,?_⟩,h.mk',λn g=>?_,(mo.1 a).2⟩
 .obtain⟨p,f,rfl,d⟩:=wS j;have c:=h.pk p f;have i:=wR (no:=no) (ms:=w.2.1) (p:=p);refine⟨by rw[yD];exact c.no,c.key,⟨ui.2 d,dO i.length_le c.len.2⟩,λx b=>c.rt x (i.subset b),c.xu.sublist i⟩
 .show (eT no w.2.1 w.1.1).Pairwise _;unfold eT;refine List.Pairwise.filter _ (List.pairwise_map.2 (h.pa.imp λl=>?_));grind[yD]
 .have:=h.sn x b;grind
 .show (eT no w.2.1 w.1.1).length<=20;have:(eT no w.2.1 w.1.1).length<=w.1.1.length:=by unfold eT;grind
  exact dO this h.len
 .obtain⟨p,f,rfl⟩:=e n (kE _ g);have d:p.1≠no:=by grind[List.pairwise_cons]
  refine⟨p,?_,rfl⟩;show p∈eT no w.2.1 w.1.1;unfold eT;refine g9.2 ⟨jS.2 ⟨p,f,by unfold iZ;grind⟩,?_⟩;have:=(h.pk p f).len.1;grind
def Eu{k:Int}{ps:List ba}{n:Int}{p:Bs}(h:c6 k ps n=aa p):bG p=ab/\gp k p=n/\n∈bC ps:=by
 unfold c6 at h;obtain⟨pk,c,a⟩:=List.exists_of_findSome?_eq_some h;unfold dt at a;split at a
 .rename_i x b;have e:x.1=n:=by simpa using List.find?_some b
  have d:=List.mem_of_find?_eq_some b;unfold chunk eO at a;refine⟨by grind,by grind,qV.2 ⟨pk,c,jS.2 ⟨x,d,e⟩⟩⟩
 .cases a
section
variable {X:Cx ag}[X.ic]
abbrev O2:List bz:=[([97],[104,101,108,108,111])]
def JY:dq O2=ab:=by decide +kernel
abbrev Ua(k:Nat):={q:List bz×Nat // dq q.1=ab/\k<=q.2/\q.2<=k+400}
def Nv(m:Nat)(b:Nat->Int)(f:Bytes b)(k:Nat)(g:k<=50000)(h:m<=1048576):
  dL (ι:=Ua k) X 84 [.e (.one (.ptr 0 0))] [ku m b k] (λq=>cF.sl q.1.1) (λq=>[ku m b q.1.2]):=by
 refine dL.oc Tryz.func84 rfl rfl rfl λj=>?_;refine bx rfl ar ?_;refine AK.cP (Nw m b f k g h) [0] rfl (λ_=>rfl) ?_;rintro⟨t,bf,xs,k1,fl,l,a,c⟩;refine aW [(1000002,ab)] rfl ar ?_;refine AK.uS 3 1 (cF.fn t) rfl rfl fl.rd ?_;refine bx rfl ar ?_;refine AK.cQ (yi t) [] rfl ?_;cases d:dq t with
 |true =>
  refine bx rfl ar (AK.kK ⟨(t,k1),d,a,c⟩ (AK.dG [0] rfl ?_ rfl rfl rfl g7));simp
 |false =>
  refine bx rfl ar (AK.kK ⟨(O2,k1),JY,a,c⟩ (AK.dG [0] rfl ?_ rfl rfl rfl g7));refine⟨rfl,λi hi=>?_⟩;have:i=0:=by grind
  subst this;rfl
end
end R1
def dL.die{X:Cx P}{f:aJ}{args:List D}{E:Nat}{b:Nat->List C}{w:BP}{es:ι->Nat->List C}{m:ι->Nat}(h:dL X f args [.buf E k n b] (λ_=>.e (.one (.bp 0 w))) (λi=>[.buf E k (m i) (es i)])):Ev X f args [.buf E k n b] (.e (.one (.bp 0 w))) [.dead] :=
 ⟨h.1,λs vs hr hh S cs hS=>h.2 s vs hr hh S cs λi fr v s' hl lR jf st=>hS fr v s' hl (by
  obtain⟨lv,h1,_,_⟩:gd _ _ _ (.bp 0 w):=lR;exact(⟨lv,h1,by simp,λ_ _ _ _ hb=>by grind⟩:gd [.dead] s' v (.bp 0 w))) jf.kU
  ⟨st.size,st.keep,st.mem,st.iI,st.ur,λl B L a c=>by
   obtain⟨B',L',h1,h2,d⟩:=st.box l B L a c;cases l with
   |zero=>simp at a;subst a;exact⟨.dead,L',rfl,h2,ar⟩
   |succ l=>grind,st.os,st.tape,st.output,st.own⟩⟩
namespace R1
variable {X:Cx ag}
def D5(h:rV):Ev X 83 [Xw h] [] (dB (iH h)) []:=by
 refine Ev.bQ Tryz.func83 rfl λb=>?_;have a:bA X []:=.nil;unfold iH;by_cases c1:h.1=1
 .by_cases c3:1<=h.2
  .exact aR a [(6,ab),(11,ab),(16,ab)] rfl (by simp[c1,c3]) (AK.bo rfl (by simp[c1,c3]))
  .exact aR a [(6,ab),(11,ab),(16,ae)] rfl (by simp[c1];omega) (AK.bo rfl (by simp[c3]))
 .by_cases c2:h.1=2
  .by_cases c3:1<=h.2
   .exact aR a [(6,ae),(11,ab),(16,ab)] rfl (by simp[c2,c3]) (AK.bo rfl (by simp[c2,c3]))
   .exact aR a [(6,ae),(11,ab),(16,ae)] rfl (by simp[c2];omega) (AK.bo rfl (by simp[c3]))
  .exact aR a [(6,ae),(11,ae),(16,ae)] rfl (by simp[c1,c2]) (AK.bo rfl (by
    have:¬(1<=h.1/\h.1<=2):=by omega
    simp only[au,gL this];simp))
def G6(h:rV):Ev X 82 [Xw h] [] (dB (!iH h)) []:=by refine Ev.bQ Tryz.func82 rfl λb=>?_;have a:bA X [(83,kB Vt (λh=>dB (iH h)) λ_=>[])]:=.cons (.ox λh _=>D5 h) .nil;exact bZ a rfl ar (AK.bo rfl)
def G7(l:List rV):o8 l=(decide (l.length<=9)&&!l.any λh=>!iH h):=by
 have:(bh l.length).all (λi=>iH (l.getD i (0,0)))=!l.any λh=>!iH h:=by rw[pv,dg,iU,List.any_eq_false];grind[List.mem_iff_getElem]
 rw[o8,this,Bool.and_comm]
def G8(l:List rV):Ev X 52 [cH.sl l] [] (dB (o8 l)) []:=by
 refine Ev.bQ Tryz.func52 rfl λd=>?_;have a:=Ka (X:=X) l 82 (λh=>!iH h) λx _=>G6 x;have b:bA X [(81,zU [cH.sl l,.e (.one (.c (.fn (.func 82) [] [])))] (dB (l.any λh=>!iH h)))]:=.cons (DI a) .nil;rw[G7];by_cases h:l.length<=9
 .exact aR b [(6,ab)] rfl ⟨rfl,dh (by omega)⟩ (AK.bo rfl (by simp[h]))
 .exact aR b [(6,ae)] rfl (by simp;omega) (AK.bo rfl (by simp[gL h]))
def NS:dM X 52 uH:=.ox λl _=>G8 l
def Ah(p:ba)(f:p.2.length<=4000000):Ev X 79 [xa p] [] (cI.sl (p.2.map (·.1))) []:=by
 refine Ev.bQ Tryz.func79 rfl λd=>?_;refine aW [(1000002,ab)] rfl ar ?_;refine AK.ix 3 3 1 rfl rfl ?_;refine bx rfl ar ?_;refine AK.bY 2 (λi=>i<=p.2.length) (λi:Nat=>[(1,.e (.one (.ptr 0 0))),(3,.e (.one (.vec 1 1 i (cI.fn ((p.2.take i).map (·.1)))))),(7,er.sl p.2),(8,dI p.2.length),(9,dI i)]) (λi=>[NI p,.vec 3 1 i (cI.fn ((p.2.take i).map (·.1)))]) (λi=>p.2.length-i) 0 rfl (by simp) rfl (by simp) rfl (by omega) ?_;intro i hi;by_cases h:i<p.2.length
 .have b:p.2.getD (i:Int).toNat er.bR=fU p i:=by grind
  have a:(p.2.take (i+1)).map (·.1)=(p.2.take i).map (·.1)++[(fU p i).1]:=by grind[bt]
  have c:((p.2.take i).map (·.1)).length=i:=by grind
  have e:=cI.cr ((p.2.take i).map (·.1)) (fU p i).1;rw[c]at e;refine aW [(10,ab)] rfl ?_ (AK.aQ (i+1) rfl ?_ ?_ h (by omega))
  .simp only[au,bw,show i3.bytes=8 from rfl];grind
  .rw[a];simp only[au.cat,au,b,aH,aE];and_intros<;>first|exact cp.same|exact e|rfl|omega
  .rw[a];simp only[au.cat,au,b,aH,aE];and_intros<;>first|exact cp.same|exact e|rfl|omega
 obtain rfl:i=p.2.length:=by omega
 rw[cO];refine aW [(10,ae)] rfl (by simp) (AK.leaveD rfl rfl ?_);exact bx rfl ar (AK.bo rfl)
abbrev Cb:dy:=kB (CK er) (λp=>cI.sl (p.2.map (·.1))) λp=>[p.2.length<=4000000]
def Kt:dM X 79 Cb:=.ox λp h=>Ah p h
def G9(ps:List ba)(i:Nat):(bC (ps.take i)).length<=(bC ps).length:=by
 have:bC ps=bC (ps.take i)++bC (ps.drop i):=by unfold bC;grind[List.take_append_drop]
 grind
abbrev Xy(l:List Int):D:=.e (.one (.bp 0 (.sl l.length 1 0 l.length)))
def Cc(ps:List ba)(n:∀p∈ps,p.2.length<=4000000)(q:(bC ps).length<=4000000):Ev X 48 [cP.sl ps] [] (Xy (bC ps)) [AH (bC ps).length (bC ps)]:=by
 refine Ev.bQ Tryz.func48 rfl λm=>?_;have k:=m.sl 0 rfl;have f:bA X [(79,Cb)]:=.cons Kt .nil;refine aR f [(1000002,ab)] rfl ar ?_;refine AK.Tx 3 3 1 (cI.fn []) rfl ?_;refine bZ f rfl ar ?_;refine AK.bY 1 (λi=>i<=ps.length) (λi:Nat=>[(3,.e (.one (.bp 0 (.sl (bC (ps.take i)).length 1 0 (bC (ps.take i)).length)))),(6,cP.sl ps),(7,dI ps.length),(8,dI i)]) (λi=>[AH (bC (ps.take i)).length (bC (ps.take i))]) (λi=>ps.length-i) 0 rfl (by simp[bC]) rfl (by simp[cp,bC]) rfl (by omega) ?_;intro i hi;by_cases h:i<ps.length
 .have g:ps.getD (i:Int).toNat cP.bR=ps.getD i (0,[]):=by grind
  have b:=wC h;have c:=G9 ps (i+1);have l:=n _ (gI (d:=(0,[])) h);generalize ps.getD i (0,[])=p at *;rw[b]at c;generalize bC (ps.take i)=a at *;have e:=cI.Ku a (p.2.map (·.1)) _ rfl;simp only[cv,mx]at c e;refine aR f [(9,ab)] rfl ?_ (AK.aQ (i+1) rfl ?_ ?_ h (by omega))
  .simp only[au,g,bw,er.list_fn,er.aO,mx,show i3.bytes=8 from rfl];grind
  .rw[b];simp only[au.cat,au,g,er.list_fn,cv,mx,aH,aE];and_intros<;>first|exact cp.same|rfl|omega
  .rw[b];simp only[au.cat,au,g,er.list_fn,cv,mx,aH,aE];grind
 obtain rfl:i=ps.length:=by omega
 rw[cO];refine aR f [(9,ae)] rfl (by simp) (AK.leaveD rfl rfl ?_);refine bZ f rfl ar (AK.dG [0] rfl ?_ rfl rfl rfl (λj o=>absurd o (by simp)));simp
def yu(ps:List ba)(b:∀p∈ps,p.2.length<=4000000)(a:(bC ps).length<=4000000):Ev X 48 [cP.sl ps] [] (cI.sl (bC ps)) [] :=
 Ev.Bx (σ1:=[]) (E:=3) (k:=1) (n:=(bC ps).length) (es:=cI.fn (bC ps)) (Cc ps b a) rfl (by simp) rfl (aZ _)
end R1
section
namespace R1
variable {X:Cx ag}[X.ic]
abbrev iY:bd:=.cells 27 [g6,g6,g6]
abbrev f92(t:List bz)(n:Nat):Fr:=[(0,.e (.one (.ptr 0 0))),(2,.e (.one (.ptr 1 0))),(3,.e (.one (.ptr 2 0))),(4,cF.sl t),(5,dI n)]
end R1
end
namespace R1
section
variable {X:Cx ag}
def D6(s:bk):Ev X 47 [qg s] [] (qg s) []:=by refine Ev.n7 Tryz.func47 rfl rfl rfl λb=>?_;refine bx rfl (by simp) ?_;refine AK.freeze 2 1 rfl rfl rfl ?_;exact AK.zh tok [] rfl (by simp) rfl rfl rfl (λj a=>absurd a (by simp))
abbrev D8:dy:=kB Nd (λs=>qg s) λ_=>[]
def Kv:dM X 47 D8:=.ox λs _=>D6 s
abbrev HD(s:bk):bd:=.cells 85 [.c (.sl ae 2 s.1.length (cP.fn s.1)),.c (.sl ae 2 s.2.1.length (eG.fn s.2.1)),.c (.sl ae 2 s.2.2.length (cH.fn s.2.2))]
structure D9(s:bk):Prop extends Y0 s where
 pk:∀p∈s.1,p.2.length<=4000000
 nm:(bC s.1).length<=4000000
def yv(k:Int)(s:bk):Bool:=(bh s.1.length).all (lN k s.1)&&decide (s.1.length<=20)&&decide (bC s.1).Nodup
def Ea(k:Int)(s:bk)(v:cB k=ab)(g:D9 s):Ev X 50 [qg s,dI k] [] (dB (yv k s)) []:=by
 refine Ev.bQ Tryz.func50 rfl λD=>?_;have E:=g.pN;have x:=g.pk;have y:=yu (X:=X) s.1 g.pk g.nm;have m:bA X [(80,Fq)]:=.cons Nf .nil;refine bZ m rfl ar ?_;unfold yv;refine AK.bY 1 (λi=>i<=s.1.length/\∀j,j<i->lN k s.1 j=ab) (λi:Nat=>[(1,dI k),(2,.e (.one (.ptr 0 0))),(9,cP.sl s.1),(10,dI s.1.length),(11,dI i)]) (λ_=>[HD s]) (λi=>s.1.length-i) 0 rfl (by simp) rfl (by simp) rfl ⟨by omega,by omega⟩ ?_;rintro i ⟨hi,a⟩;by_cases h:i<s.1.length
 .have w:s.1.getD i cP.bR=s.1.getD i (0,[]):=rfl;have q:s.1.getD (i-1) cP.bR=s.1.getD (i-1) (0,[]):=rfl;have b:lN k s.1 i=(iX k (s.1.getD i (0,[]))&&xu (·.1) (0,[]) s.1 i):=rfl;have r:=nO (f:=λp:ba=>p.1) (d:=(0,[])) (l:=s.1) (i:=i);have c:=x _ (gI (d:=(0,[])) h);generalize s.1.getD i (0,[])=p at *;generalize s.1.getD (i-1) (0,[])=p' at *;cases o:iX k p with
  |false =>
   rw[o,rb]at b;refine aR m [(12,ab),(20,ab),(35,ab)] rfl ?_ (AK.eX (cd.zero rfl ?_))
   .simp[-aj,w,v,c,o,er.list_fn,er.aO];omega
   .rw[fV h b];simp
  |true =>
   rw[o,fA]at b;by_cases A:i=0
   .subst A;refine aR m [(12,ab),(20,ae),(23,ae),(35,ae)] rfl ?_ (AK.aQ 1 rfl (by simp) (by simp) ⟨h,gX a (by rw[b];rfl)⟩ (by omega));simp[-aj,w,v,c,o,er.list_fn,er.aO,bw];omega
   have r:=r A;by_cases G:p'.1<p.1
   .refine aR m [(12,ab),(20,ae),(23,ab),(33,ae),(35,ae)] rfl ?_ (AK.aQ (i+1) rfl (by simp) (by simp) ⟨h,gX a (by grind)⟩ (by omega));simp[-aj,w,q,v,c,o,er.list_fn,er.aO,bw];omega
   .refine aR m [(12,ab),(20,ae),(23,ab),(33,ab),(35,ab)] rfl ?_ (AK.eX (cd.zero rfl ?_))
    .simp[-aj,w,q,v,c,o,er.list_fn,er.aO,bw];omega
    .rw[fV h (by grind)];simp
 obtain rfl:i=s.1.length:=by omega
 rw[dg.2 a,fA];refine aR m [(12,ae)] rfl (by simp) (AK.leaveD rfl rfl ?_);refine bZ m rfl ar ?_;refine AK.cQ (Cc s.1 g.pk g.nm) [] rfl ?_;refine bZ m rfl ar ?_;refine AK.cQ (wG (bC s.1) g.nm) [1] rfl ?_;have C:=Ai (bC s.1);have t:=(wH (X:=X) (ky (bC s.1)) (by rw[fh];exact g.nm)).die;rw[fh]at t;have z:=nQ (ky (bC s.1));rw[fh]at z;have B:=g.nm;generalize dY (ky (bC s.1))=cs at *;generalize ky (bC s.1)=so at *;have pT:bA X [(72,Jx [j6 (bC s.1).length] [AH (bC s.1).length so] (.e (.one (.bp 0 (.sl (bC s.1).length 1 0 cs.length)))) [.dead]),(48,zU [cP.sl s.1] (cI.sl (bC s.1)))]:=.cons (OT t) (.cons (DI y) .nil);refine aR pT [(1000009,ab)] rfl ar ?_;by_cases u:s.1.length<=20
 rotate_left
 .refine aR pT [(46,ae)] rfl ?_ (AK.bo rfl ?_)
  .simp;omega
  .simp[u]
 have n:(s.1.length:Int)<=20:=by omega
 generalize F:bC s.1=N at *;refine AK.LL (ι:=Unit) di 6 (λi=>match bu i 5 with|true=>ab|false=>match av i 8 with|true=>ab|false=>av i 9) (λi=>[.e (.one (.ptr 0 0)),cP.sl s.1,dI s.1.length,dB (decide ((s.1.length:Int)<=20)),dB ab,.e (.one (.bp 1 (.sl N.length 1 0 N.length))),.any,.any,.e (.one (.ptr 0 0)),cP.sl s.1].getD i .any)
  (λ_ i=>[.any,.any,.any,.any,.any,.any,.e (.one (.bp 1 (.sl N.length 1 0 cs.length))),dI cs.length,.any,.any,cI.sl N,dI N.length,dB ((cs.length:Int)==N.length),dB ((cs.length:Int)==N.length),dB ((cs.length:Int)==N.length)].getD i .any) (λ_=>[HD s,.dead]) rfl rfl rfl rfl rfl rfl ?_ ?_ ?_ ?_
 .exact⟨.dr tok pT rfl,.dr tok pT rfl,.dr tok pT rfl,.dr tok pT rfl,.eval tok pT (ds:=[(46,ab)]) rfl (dh n),.dr tok pT rfl,ar,ar,.dr tok pT rfl,.dr tok pT rfl,ar,ar,ar,ar,ar,ar⟩
 .intro _;exact⟨.dr tok pT rfl,.dr tok pT rfl,.dr tok pT rfl,.dr tok pT rfl,.eval tok pT (ds:=[(46,ab)]) rfl (dh n),.dr tok pT rfl,ar,.dr tok pT rfl,.dr tok pT rfl,.dr tok pT rfl,.eval tok pT (ds:=[]) rfl rfl,.dr tok pT rfl,.dr tok pT rfl,.dr tok pT rfl,.dr tok pT rfl,ar⟩
 .exact .xo (en tok pT (ds:=[]) (σ':=aa [HD s,.dead]) rfl ⟨rfl,rfl⟩)
 .intro _;refine bZ pT rfl ar (AK.bo rfl ?_);have:((cs.length:Int)==N.length)=decide N.Nodup:=by grind
  simp[this,u]
def lk:List (Int×Int)->C
 |[]=>.oG
 |h::t=>.rp [.int .i64 h.1,.int .i64 h.2,lk t]
end
abbrev cTr:List (Nat×dy):=[(70,yc)]
def Eb(k:Int)(s:bk)(t:D9 s):Ev (Cx.beside ag) 51 [qg s,dI k] [] (dB ((bh s.2.1.length).all (jG k s))) []:=by
 refine Ev.bQ Tryz.func51 rfl λw=>?_;have x:=t.sN;have q:=t.sm;have c:bA (Cx.beside ag) cTr:=.cons GC .nil;refine bZ c rfl ar ?_;refine AK.bY 1 (λi=>i<=s.2.1.length/\∀j,j<i->jG k s j=ab) (λi:Nat=>[(1,dI k),(2,.e (.one (.ptr 0 0))),(10,eG.sl s.2.1),(11,dI s.2.1.length),(12,dI i)]) (λ_=>[HD s]) (λi=>s.2.1.length-i) 0 rfl (by simp) rfl (by simp) rfl ⟨by omega,by omega⟩ ?_;rintro i ⟨hi,b⟩;by_cases h:i<s.2.1.length
 .have o:s.2.1.getD i eG.bR=s.2.1.getD i (0,[]):=rfl;have n:s.2.1.getD (i-1) eG.bR=s.2.1.getD (i-1) (0,[]):=rfl;have a:jG k s i=(decide (1<=(s.2.1.getD i (0,[])).1/\(s.2.1.getD i (0,[])).1<=20)&&xu (·.1) (0,[]) s.2.1 i&&(cj k (s.2.1.getD i (0,[])) s.1).isSome):=rfl;have r:=nO (f:=λp:cC=>p.1) (d:=(0,[])) (l:=s.2.1) (i:=i);have g:=q _ (gI (d:=(0,[])) h);generalize s.2.1.getD i (0,[])=p at *;generalize s.2.1.getD (i-1) (0,[])=p' at *;by_cases c1:1<=p.1
  rotate_left
  .refine aR c [(13,ab),(20,ab),(25,ab),(40,ab)] rfl ?_ (AK.eX (cd.zero rfl ?_))
   .simp[-aj,o];omega
   .rw[fV h (by grind)];simp
  by_cases c2:p.1<=20
  rotate_left
  .refine aR c [(13,ab),(20,ae),(25,ab),(40,ab)] rfl ?_ (AK.eX (cd.zero rfl ?_))
   .simp[-aj,o];omega
   .rw[fV h (by grind)];simp
  rw[dh ⟨c1,c2⟩,fA]at a;by_cases u:i=0
  .subst u;rw[show xu (·.1) (0,[]) s.2.1 0=ab from rfl,fA]at a;cases m:(cj k p s.1).isSome with
   |false =>
    refine aR c [(13,ab),(20,ae),(25,ae),(27,ae),(40,ae),(50,ab)] rfl ?_ (AK.eX (cd.zero rfl ?_))
    .simp[-aj,o,bw,cL.list_fn,cL.aO,cP.list_fn,cP.aO,m,g.1];and_intros<;>first|omega|grind
    .rw[fV h (a.trans m)];simp
   |true =>
    refine aR c [(13,ab),(20,ae),(25,ae),(27,ae),(40,ae),(50,ae)] rfl ?_ (AK.aQ 1 rfl (by simp) (by simp) ⟨h,gX b (a.trans m)⟩ (by omega));simp[-aj,o,bw,cL.list_fn,cL.aO,cP.list_fn,cP.aO,m,g.1];and_intros<;>first|omega|grind
  rw[r u]at a;by_cases v:p'.1<p.1
  rotate_left
  .refine aR c [(13,ab),(20,ae),(25,ae),(28,ab),(38,ab),(40,ab)] rfl ?_ (AK.eX (cd.zero rfl ?_))
   .simp[-aj,o,n,bw];omega
   .rw[fV h (by grind)];simp
  rw[dh v,fA]at a;cases m:(cj k p s.1).isSome with
  |false =>
   refine aR c [(13,ab),(20,ae),(25,ae),(28,ab),(38,ae),(40,ae),(50,ab)] rfl ?_ (AK.eX (cd.zero rfl ?_))
   .simp[-aj,o,n,bw,cL.list_fn,cL.aO,cP.list_fn,cP.aO,m,g.1];and_intros<;>first|omega|grind
   .rw[fV h (a.trans m)];simp
  |true =>
   refine aR c [(13,ab),(20,ae),(25,ae),(28,ab),(38,ae),(40,ae),(50,ae)] rfl ?_ (AK.aQ (i+1) rfl (by simp) (by simp) ⟨h,gX b (a.trans m)⟩ (by omega));simp[-aj,o,n,bw,cL.list_fn,cL.aO,cP.list_fn,cP.aO,m,g.1];and_intros<;>first|omega|grind
 obtain rfl:i=s.2.1.length:=by omega
 rw[dg.2 b];refine aR c [(13,ae)] rfl (by simp) (AK.leaveD rfl rfl ?_);exact bZ c rfl ar (AK.bo rfl)
def xx(k:Int)(s:bk):fN k s=(cB k&&yv k s&&(bh s.2.1.length).all (jG k s)&&o8 s.2.2):=by unfold fN yv;cases(bh s.1.length).all (lN k s.1)<;>cases decide (bC s.1).Nodup<;>cases(bh s.2.1.length).all (jG k s)<;>cases cB k<;>cases o8 s.2.2<;>cases decide (s.1.length<=20)<;>rfl
abbrev Rl:dy:=oa Nd aI (λs k=>dB (yv k s)) λs k=>[cB k=ab,D9 s]
abbrev Rm:dy:=oa Nd aI (λs k=>dB ((bh s.2.1.length).all (jG k s))) λs _=>[D9 s]
def Cd(k:Int)(s:bk)(g:D9 s):Ev (Cx.beside ag) 20 [dI k,qg s] [] (dB (fN k s)) []:=by
 refine Ev.bQ Tryz.func20 rfl λj=>?_;have d:bA (Cx.beside ag) [(47,D8),(49,kB aI (λk=>dB (cB k)) λ_=>[]),(50,Rl),(51,Rm),(52,uH)]:=.cons Kv (.cons t49 (.cons (.qC λs k h=>Ea k s h.1 h.2) (.cons (.qC λs k h=>Eb k s h) (.cons NS .nil))));have b:=cP.list_fn s.1;have e:=eG.list_fn s.2.1;have a:=cH.list_fn s.2.2;rw[xx];cases c:cB k
 .exact aR d [(10,ae),(15,ae),(20,ae)] rfl (by simp[c,b,e,a,cP.aO,eG.aO,cH.aO]) (AK.bo rfl)
 cases f:yv k s
 .exact aR d [(10,ab),(15,ae),(20,ae)] rfl (by simp[c,b,e,a,cP.aO,eG.aO,cH.aO,g,f]) (AK.bo rfl)
 cases i:(bh s.2.1.length).all (jG k s)
 .exact aR d [(10,ab),(15,ab),(20,ae)] rfl (by simp[-List.all_eq_true,-List.all_eq_false,c,b,e,a,cP.aO,eG.aO,cH.aO,g,f,i]) (AK.bo rfl)
 exact aR d [(10,ab),(15,ab),(20,ab)] rfl (by simp[-List.all_eq_true,-List.all_eq_false,c,b,e,a,cP.aO,eG.aO,cH.aO,g,f,i]) (AK.bo rfl (by simp[a]))
abbrev sY:dy:=oa aI Nd (λk s=>dB (fN k s)) λ_ s=>[D9 s]
def yw:dM (Cx.beside ag) 20 sY:=.qC λk s h=>Cd k s h
structure UA(s:bk):Prop where
 a1:s.1.length<=20
 a2:∀p∈s.1,(1<=p.1/\p.1<=99)/\p.2.length<=4
 a3:s.2.1.length<=21
 a4:∀x∈s.2.1,(1<=x.1/\x.1<=20)/\x.2.length<=6/\∀y∈x.2,y.2.length<=40
 a5:s.2.2.length<=9
 a6:∀h∈s.2.2,1<=h.2/\h.2<=20
def nT{α a:Type}{f:α->List a}{n:Nat}:∀{l:List α},(∀x∈l,(f x).length<=n)->(l.flatMap f).length<=n*l.length
 |[],_=>by simp
 |x::l,h=>by have d:=h x iA;have c:=nT (l:=l) λy b=>h y (kE _ b);grind[Nat.mul_succ]
def Ee{x:cC}(h:x.2.length<=6/\∀y∈x.2,y.2.length<=40):(bT x.2).length<=240:=by have:=nT (f:=λy:gz=>y.2) (n:=40) h.2;unfold bT;omega
structure TA(s:bk):Prop extends UA s where
 pa:s.1.Pairwise λp q=>p.1<q.1
 sa:s.2.1.Pairwise λx y=>x.1<y.1
 hb:∀h∈s.2.2,1<=h.1/\h.1<=2
structure TW(n:Nat)(w:c7):Prop where
 s:TA w.1
 m:w.2.1.length<=n
 l:w.2.2.length<=20
abbrev UU:c7:=(([],[],[]),[],[])
def Cw(k:Int)(s:bk)(keep:List Int):c7×Bool :=
 if fN k s=ab then(((s.1,s.2.1.filter λx=>keep.contains x.1,s.2.2),dz (s.2.1.filter λx=>keep.contains x.1),s.1.map (·.1)),ab)else(UU,ae)
def Lm{X:Cx ag}(s:bk)(b:∀p∈s.1,p.2.length<=4000000)(a:(bC s.1).length<=4000000):Ev X 19 [qg s] [] (dI (bC s.1).length) []:=by
 refine Ev.bQ Tryz.func19 rfl λd=>?_;have c:bA X [(47,D8)]:=.cons Kv .nil;refine cJ c rfl ?_ ?_
 .simp[cP.aO,eG.aO,cH.aO]
 simp only[cP.list_fn,eG.list_fn,cH.list_fn];refine AK.cQ (yu s.1 b a) [] rfl ?_;exact bx rfl ar (AK.bo rfl)
abbrev Ph:dy:=kB Nd (λs=>dI (bC s.1).length) λs=>[∀p∈s.1,p.2.length<=4000000,(bC s.1).length<=4000000]
def US{X:Cx ag}:dM X 19 Ph:=.ox λs h=>Lm s h.1 h.2
section
variable {X:Cx ag}
def i63:TI:=⟨1,8,ae,TypeDesc.map 3 4,[.val (.map af)],[]⟩
def g63:dC ag 63 i63:=⟨Tryz.underlying63,rfl,⟨Tryz.t63,_,ff Tryz.type63,rfl,rfl,rfl,rfl,⟨#[],rfl⟩,rfl⟩,λh=>absurd rfl h⟩
def eD:c8 ag ((63,i63)::tt):=c8.cons g63 tok
abbrev Pa(v:ai):D:=.e (.one (.v v))
abbrev ow(a:ai)(l:List Int):bd:=.cf (ov a l)
def Kw(c:ai)(a l:List Int):Ev X 32 [Pa c,cI.sl l] [ow c a] (.fw []) [ow c (a++l)]:=by
 refine Ev.bQ Tryz.func32 rfl λe=>?_;have d:=e.sl 1 rfl;refine AK.dj di eD bA.nil [] 100 rfl ar ?_;refine AK.bY 1 (λi=>i<=l.length) (λi:Nat=>[(0,Pa c),(6,cI.sl l),(7,dI l.length),(8,dI i)]) (λi=>[ow c (a++l.take i)]) (λi=>l.length-i) 0 rfl (by simp) rfl (by simp) rfl (by omega) ?_;intro i hi;by_cases h:i<l.length
 .have f:l.getD (i:Int).toNat cI.bR=l.getD i 0:=by rw[bL];rfl
  refine AK.dj di eD bA.nil [(9,ab)] 100 rfl (by simp;omega) ?_;refine AK.law (bD.Rg rfl Tryz.underlying63 Tryz.underlying3 (b:=0) rfl rfl rfl rfl) rfl rfl ?_;refine AK.dj di eD bA.nil [] 100 rfl ?_ (AK.aQ (i+1) rfl ?_ ?_ h (by omega))
  .simp[bw];omega
  .simp
  .rw[bt h 0,<-jP];simp only[au.cat,au,f,aE]
 obtain rfl:i=l.length:=by omega
 rw[cO];refine AK.dj di eD bA.nil [(9,ae)] 100 rfl (by simp) (AK.leaveD rfl rfl ?_);exact cd.sI [0] rfl (by simp) rfl rfl rfl lU
def Aj(a:ai)(l:List Int)(n:Int):Ev X 40 [dI n,.e (.one (.c (.rp [.val a])))] [ow a l] (dB (!l.contains n)) [ow a l]:=by refine Ev.bQ Tryz.func40 rfl λd=>?_;refine AK.dj di eD bA.nil [] 100 rfl ar ?_;refine AK.law (bD.NC rfl Tryz.underlying63 Tryz.underlying3 (λw=>Tryz.zeroValue4 w) (b:=0) rfl rfl rfl) rfl rfl ?_;exact AK.dj di eD bA.nil [] 100 rfl ar (AK.dG [0] rfl (by simp) rfl rfl rfl lU)
def Ha(p:ba)(n:Int):Ev X 42 [xa p,.e (.one (.c (.rp [.int .i64 n])))] [] (dB (p.1==n)) []:=by refine Ev.bQ Tryz.func42 rfl λa=>?_;exact bx rfl ar (AK.bo rfl)
def wI(x:cC)(b:x.2.length<=4000000)(a:(bT x.2).length<=4000000):Ev X 33 [BH x] [] (cI.sl (et x)) []:=by refine Ev.bQ Tryz.func33 rfl λc=>?_;refine bx rfl ar ?_;refine AK.cQ (Ak x b a) [] rfl ?_;exact bx rfl ar (AK.bo rfl)
def Aw(d:ai)(r:Nat)(es:Array MapEntry)(c:Nat):ai->(Nat->Option Obj)->Prop:=λv a=>v=d/\∀b,a b=if b=r then aa (.map es c)else af
def nY(e:MapEntry):Int:=match e.key with|.int _ n=>n|_=>0
structure Ax(d:ai)(l:List Int)(r:Nat)(es:Array MapEntry)(c:Nat):Prop where
 m:d=.map (aa r)
 st:MapKept.Stamped es c
 kv:∀e∈es.toList,e.key=.int .i64 (nY e)/\bw .i64 (nY e)/\e.val=.bool ab
 mem:∀n,n∈l↔n∈es.toList.map nY
def ov.tell{d:ai}{l:List Int}{ch:Nat->Option Obj}(h:ov d l v ch):∃q:{q:Nat×Array MapEntry×Nat // Ax d l q.1 q.2.1 q.2.2},Aw d q.1.1 q.1.2.1 q.1.2.2 v ch:=by
 obtain⟨h1,r,es,c,h2,i,j,o,m⟩:=h;have b:∀e∈es.toList,e.key=.int .i64 (nY e)/\bw .i64 (nY e)/\e.val=.bool ab:=λe a=>by
  obtain⟨n,k1,f,g⟩:=o e a;have:nY e=n:=by simp[nY,k1]
  rw[this];exact⟨k1,g,f⟩
 refine⟨⟨(r,es,c),h2,j,b,λn=>?_⟩,h1,i⟩;rw[m,jS];constructor
 .rintro⟨e,a,k⟩;exact⟨e,a,by simp[nY,k]⟩
 .rintro⟨e,a,rfl⟩;exact⟨e,a,(b e a).1⟩
def Ax.back{d:ai}{l:List Int}{r:Nat}{es:Array MapEntry}{c:Nat}{ch:Nat->Option Obj}(q:Ax d l r es c)(h:Aw d r es c v ch):ov d l v ch:=by
 refine⟨h.1,r,es,c,q.m,h.2,q.st,λe a=>⟨_,(q.kv e a).1,(q.kv e a).2.2,(q.kv e a).2.1⟩,λn=>?_⟩;rw[q.mem,jS];constructor
 .rintro⟨e,a,rfl⟩;exact⟨e,a,(q.kv e a).1⟩
 .rintro⟨e,a,k⟩;exact⟨e,a,by simp[nY,k]⟩
def Lo(es:Array MapEntry)(pre:List Int)(sn:Array Nat):Prop:=pre.Nodup/\(∀x∈pre,x∈es.toList.map nY)/\∀e∈es.toList,e.born∈sn↔nY e∈pre
section
variable {d:ai}{l:List Int}{r c:Nat}{es:Array MapEntry}(q:Ax d l r es c)
include q
def Ax.nd:(es.toList.map nY).Nodup:=by
 have h:es.toList.map (·.key)=(es.toList.map nY).map (Value.int .i64):=by rw[List.map_map];exact qR λe a=>(q.kv e a).1
 have:=q.st.2.2;rw[h]at this;rw[List.Nodup,List.pairwise_map]at this;exact this.imp λh e=>h (dA (Value.int .i64) e)
def Ax.step{pre:List Int}{sn:Array Nat}(h:Lo es pre sn){e:MapEntry}(b:e∈es.toList)(i:e.born∉sn):Lo es (pre++[nY e]) (sn.push e.born)/\nY e∉pre:=by
 have f:nY e∉pre:=λg=>i ((h.2.2 e b).2 g);refine⟨⟨by grind[Lo],λx a=>?_,λe2 Oq=>?_⟩,f⟩
 .rcases fz.1 a with a|a
  .exact h.2.1 x a
  .rw[iT.1 a];exact List.mem_map_of_mem b
 .simp only[Array.mem_push,fz,iT,h.2.2 e2 Oq];refine or_congr_right ⟨λh1=>?_,λh1=>?_⟩
  .rw[sE q.st.2.1 Oq b h1]
  .rw[sE q.nd Oq b h1]
def Ax.over{pre:List Int}{sn:Array Nat}(h:Lo es pre sn)(f:∀e∈es.toList,e.born∈sn):pre.Nodup/\∀n,n∈pre↔n∈l:=by refine⟨h.1,λn=>⟨λa=>(q.mem n).2 (h.2.1 n a),λa=>?_⟩⟩;obtain⟨e,b,rfl⟩:=jS.1 ((q.mem n).1 a);exact(h.2.2 e b).1 (f e b)
end
def FR{a:List Nat}:∀j,j<1->(0::a)[j]?=aa j:=λj b=>by
 obtain rfl:j=0:=by omega
 rfl
abbrev Ay(d:ai):C:=.fn (.func 95) [] [.rp [.val d]]
def Lp(d:ai):Ev X 68 [Pa d] [] (.e (.one (.c (Ay d)))) []:=by refine Ev.bQ Tryz.func68 rfl λa=>?_;refine AK.dj di eD bA.nil [(1000001,ab)] 100 rfl ar ?_;refine AK.freeze 1 0 rfl rfl rfl ?_;exact AK.dj di eD bA.nil [] 100 rfl ar (AK.bo rfl)
set_option maxRecDepth 20000 in
def En{T:Type}{d:ai}{l:List Int}{r:Nat}{es:Array MapEntry}{c:Nat}(q:Ax d l r es c){j:Nat}{a:Fr}{k:Loop}(B1 B2:T->bd)(R:List Int->T->Prop)(u:T)(I:R [] u)(D:∀t,B1 t≠.qp/\B2 t≠.qp)(b:∀pre x t C,x∉pre->pre.Nodup->(∀y∈pre++[x],y∈l)->R pre t->Yields (ι:={f:T // R (pre++[x]) f}) X 3 [dI x] [.cf (Aw d r es c),B1 t,B2 t,.loop j a k,.cf C] ab (λf=>[.cf (Aw d r es c),B1 f.1,B2 f.1,.loop j a k,.cf C])):
  dL (ι:={p:T×List Int×Array Nat // (p.2.1.Nodup/\∀n,n∈p.2.1↔n∈l)/\R p.2.1 p.1}) X 95 [.e (.one (.ref 3)),.e (.one (.c (.rp [.val d])))] [.cf (Aw d r es c),B1 u,B2 u,.loop j a k] (λ_=>.fw []) (λi=>[.cf (Aw d r es c),B1 i.1.1,B2 i.1.1,.loop j a k,.cf (Fc r c i.1.2.2)]):=by
 obtain rfl:=q.m;have w:I8 (Aw (.map (aa r)) r es c) r es c:=λv K h=>by rw[h.2];simp
 refine dL.De Tryz.func95 rfl rfl rfl (AK.of_code ?_);refine AK.dj di eD bA.nil [] 100 rfl ar ?_;refine AK.range (mb:=0) (r:=r) rfl rfl rfl rfl Tryz.underlying63 (ck.To rfl) rfl w ?_;refine AK.dj di eD bA.nil [] 100 rfl ar ?_;show AW X _ (.loop _) _ _ _;refine AW.loop (S:=T×List Int×Array Nat) (λx=>Lo es x.2.1 x.2.2/\R x.2.1 x.1) (λ_=>[(0,.e (.one (.ref 3))),(5,.e (.one (.ref 4)))]) (λx=>[.cf (Aw (.map (aa r)) r es c),B1 x.1,B2 x.1,.loop j a k,.cf (Fc r c x.2.2)]) (λx=>es.toList.length-x.2.1.length) (u,[],#[]) ⟨⟨List.nodup_nil,by simp,by simp⟩,I⟩ (dv rfl (by simp)) rfl ?_;rintro⟨t,pre,sn⟩ ⟨z,A⟩;refine AK.of_code ?_;refine AK.dj di eD bA.nil [] 100 rfl ar ?_;refine AK.next (mb:=0) (ib:=4) (r:=r) (c:=c) (sn:=sn) (es:=es) rfl rfl rfl rfl rfl rfl rfl rfl w q.st (λe g=>⟨by rw[(q.kv e g).1];rfl,by rw[(q.kv e g).2.2];rfl⟩) λi=>?_;cases i with
 |over ha =>
  refine AK.dj di eD bA.nil [(7,ae)] 100 rfl (by simp) ?_;refine AK.IV rfl rfl ?_;exact⟨⟨(t,pre,sn),q.over z ha,A⟩,.inr rfl,rfl,jX (B:=.cf _) (by simp) (jX (D t).1 (jX (D t).2 rfl)),[],.fw [],[],rfl,rfl,rfl,ar⟩
 |one e g H =>
  refine AK.dj di eD bA.nil [(7,ab)] 100 rfl (by simp) ?_;obtain⟨k1,G,J⟩:=q.kv e g;obtain⟨o,E⟩:=q.step z g H;refine AK.entry (mb:=0) (ib:=4) (r:=r) (c:=c) (sn:=sn) (es:=es) (e:=e) (y:=.fw [.one (.c (.int .i64 (nY e))),.one .any]) rfl rfl rfl rfl rfl rfl rfl w q.st g (λs=>⟨[e.key,e.val],rfl,?_,by rw[J];rfl,ar⟩) ?_
  .rw[k1];exact Rd.int G
  refine AK.dj di eD bA.nil [] 100 rfl ar ?_;refine AK.yield (b pre (nY e) t _ E z.1 (λy F=>(q.mem y).2 (o.2.1 y F)) A) rfl rfl rfl rfl rfl rfl λf=>?_;refine AK.dj di eD bA.nil [(13,ae)] 100 rfl (by simp) ?_;refine⟨(f.1,pre++[nY e],sn.push e.born),⟨o,f.2⟩,?_,dv rfl (by simp),rfl⟩;have:=wF _ _ o.1 o.2.1;simp at this⊢;omega
abbrev RQ(l:List Int):Type:={q:List Int // q.Nodup/\∀n,n∈q↔n∈l}
set_option maxRecDepth 20000 in
def xG(d:ai)(l:List Int)(p:l.length<=4000000):
  dL (ι:=RQ l) X 119 [.e (.one (.c (.sl ab 0 0 λ_=>[]))),.e (.one (.c (Ay d)))] [ow d l] (λq=>.e (.one (.bp 1 (.sl q.1.length 1 0 q.1.length)))) (λq=>[ow d l,AH q.1.length q.1]):=by
 refine dL.zD Tryz.func119 rfl rfl rfl λo=>?_;refine nH.seq (AW.top (AK.of_code ?_));refine bx rfl ar ?_;refine nH.seq (nH.seq (AW.top (AK.of_code ?_)));refine AK.HU 0 (λq:{q:Nat×Array MapEntry×Nat // Ax d l q.1 q.2.1 q.2.2}=>Aw d q.1.1 q.1.2.1 q.1.2.2) rfl (λv b h=>ov.tell h) ?_;rintro⟨⟨r,es,c⟩,q⟩;refine AK.vM 1 0 3 1 (cI.fn []) rfl rfl ?_;refine bx rfl ar ?_;refine nH.block ?_;refine nH.rangeFunc (capD:=fC [.rp [.val d]]) (ck.callee rfl) (En (T:=List Int) q (λt=>.cells 28 [.bp 2 (.sl t.length 1 0 t.length)]) (λt=>AH t.length t) (λpre t=>t=pre) [] rfl (λt=>⟨by simp,by simp⟩) ?_) (λi=>⟨rfl,by simp⟩) λi=>⟨.normal,rfl,?_⟩
 .rintro pre x t s m f a rfl;have g:t.length+1<=4000000:=by have:=wF (t++[x]) l (by grind) a;simp at this;omega
  refine Yields.intro (j:=af) rfl rfl rfl rfl (AK.of_code ?_);refine bx rfl ar ?_;refine⟨rfl,rfl,AK.of_code ?_⟩;refine bx rfl (by simp[bw,show i3.bytes=8 from rfl];omega) ?_;have e:=cI.cr t x;refine⟨rfl,rfl,⟨t++[x],rfl⟩,kY rfl ?_⟩;simp only[au.cat,au,cv,e9,aH,aE];and_intros<;>first|exact e|rfl|exact cp.same
 .show nH X _ _ _ _ _;obtain⟨⟨t,pre,sn⟩,k,n⟩:=i;obtain rfl:t=pre:=n;refine AW.top (AK.of_code ?_);refine AK.HU (ι:=Unit) 0 (λ_=>ov d l) rfl (λv b h=>⟨(),q.back h⟩) λ_=>?_;refine bx rfl ar ?_;refine AK.il (λe φ σ q=>⟨⟨t,k⟩,q⟩) (AK.dG [0,2] rfl ?_ rfl rfl rfl FR);simp
def Cy(d:ai)(l:List Int)(a:l.length<=4000000):
  dL (ι:=RQ l) X 94 [.e (.one (.c (Ay d)))] [ow d l] (λq=>.e (.one (.bp 1 (.sl q.1.length 1 0 q.1.length)))) (λq=>[ow d l,AH q.1.length q.1]):=by refine dL.oc Tryz.func94 rfl rfl rfl λb=>?_;refine bx rfl ar ?_;refine AK.kW (xG d l a) [0] rfl rfl rfl rfl (by simp) rfl rfl rfl (λ_=>rfl) rfl (λ_=>rfl) rfl λq=>?_;refine bx rfl ar (AK.kK q (AK.dG [0,1] rfl ?_ rfl rfl rfl FR));simp
def Ht{l Q:List Int}(i:Q.Pairwise (· < ·))(g:∀n,n∈Q↔n∈l)(q:RQ l):ky q.1=Q:=by
 have f:(ky q.1).Pairwise λa b=>a<=b:=(List.pairwise_mergeSort (λa b c f e=>by grind) (λa b=>by grind) q.1).imp λh=>by grind
 have e:(ky q.1).Nodup:=(nS _).nodup_iff.2 q.2.1;refine FG ?_ i λn=>by rw[(nS _).mem_iff,q.2.2,g]
 exact(f.and e).imp λh=>by omega
def Eo(d:ai)(l Q:List Int)(f:l.length<=4000000)(i:Q.Pairwise (· < ·))(g:∀n,n∈Q↔n∈l):
  Ev X 67 [.e (.one (.c (Ay d)))] [ow d l] (.e (.one (.bp 1 (.sl Q.length 1 0 Q.length)))) [ow d l,AH Q.length Q]:=by
 refine Ev.bQ Tryz.func67 rfl λj=>?_;refine bx rfl ar ?_;refine AK.cP (Cy d l f) [0] rfl (λ_=>rfl) λq=>?_;have e:=Ht i g q;have k:=wF q.1 l q.2.1 λn h=>(q.2.2 n).1 h;have b:=wG (X:=X) q.1 (by omega);have a:q.1.length=Q.length:=by rw[<-e,fh]
 rw[e,a]at b;rw[a];refine bx rfl ar ?_;refine AK.cQ b [1] rfl ?_;refine bx rfl ar (AK.dG [0,1] rfl ?_ rfl rfl rfl FR);simp
def Lq(d:ai)(l Q:List Int)(a:l.length<=4000000)(f:Q.Pairwise (· < ·))(b:∀n,n∈Q↔n∈l):
  Ev X 34 [Pa d] [ow d l] (cI.sl Q) [ow d l]:=by
 have h:Ev X 34 [Pa d] [ow d l] (.e (.one (.bp 1 (.sl Q.length 1 0 Q.length)))) ([ow d l]++[AH Q.length Q]):=by refine Ev.bQ Tryz.func34 rfl λg=>?_;refine AK.dj di eD bA.nil [] 100 rfl ar ?_;refine AK.cQ (Lp d) [] rfl ?_;refine AK.dj di eD bA.nil [] 100 rfl ar ?_;refine AK.cQ (Eo d l Q a f b) [0] rfl ?_;refine AK.dj di eD bA.nil [] 100 rfl ar (AK.dG [0,1] rfl ?_ rfl rfl rfl FR);simp
 exact Ev.Bx h rfl (by simp) rfl (aZ _)
def Em(s:bk)(a:iM s):Ev X 25 [qg s] [] (qg s) []:=by refine(wv s a.p a.p2 a.sn a.s2 a.h).forget rfl ?_ rfl;simp
abbrev FQ:dy:=kB Nd (λs=>qg s) λs=>[iM s]
def Oh:dM X 25 FQ:=.ox λs h=>Em s h
abbrev XS(p:ba)(a:List cn):List bd:=[NI p,.cells 43 [.c (.int .i64 0),g6],.cells 43 [.c (.int .i64 p.1),.vec 3 2 a.length (er.fn a)],.vec 68 2 a.length (er.fn a)]
def w6{l:List α}{q:α->Bool}(h:i<l.length)(d:α):(l.take (i+1)).filter q=if q (l.getD i d)=ab then(l.take i).filter q++[l.getD i d]else(l.take i).filter q:=by rw[bt h d,List.filter_append,nn];split<;>simp
def filter_le(l:List α)(q:α->Bool)(h:i<=l.length):((l.take i).filter q).length<=i:=dO (kD _ _) (by simp;omega)
abbrev VB(w:c7)(b:Bool):D:=.fw [.agg (Xx w),.one (.c (.bool b))]
abbrev Hq:List A:=[g6,g6,g6,g6,g6]
abbrev UT(s:bk)(a:List cC)(l:List Int):List bd:=[qN s,.cells 32 Hq,.cells 32 [p0 cP s.1,.vec 4 2 a.length (eG.fn a),p0 cH s.2.2,g6,.vec 5 1 l.length (cI.fn l)],qN s,.vec 39 2 a.length (eG.fn a),.vec 3 1 l.length (cI.fn l)]
def map_take{a:Type}{l:List α}{f:α->a}(h:i<l.length)(d:α):(l.take (i+1)).map f=(l.take i).map f++[f (l.getD i d)]:=by rw[bt h d,List.map_append];rfl
def k9(l:List cC)(q:cC->Bool):(gY (l.filter q)).length<=(gY l).length:=by
 induction l with
 |nil=>simp
 |cons x l a =>
  unfold gY at *;grind
def Hr(k:Int)(s:bk)(keep:List Int)(d:iM s)(n:Y0 s):Ev X 9 [dI k,qg s,cI.sl keep] [] (VB (Cw k s keep).1 (Cw k s keep).2) []:=by
 refine Ev.n7 Tryz.func9 rfl rfl rfl λw=>?_;have c:bA X [(24,yr),(25,FQ),(26,Kh),(27,Ca)]:=.cons G5 (.cons Oh (.cons O9 (.cons Ks .nil)));have y:=d.p;have r:=d.sn;unfold Cw;cases q:fN k s with
 |false =>
  refine bq c [(15,ab)] rfl ?_ ?_
  .simp only[au,cP.list_fn,cP.aO,eG.list_fn,eG.aO,cH.list_fn,cH.aO,q,d.p,d.sn,aH,aE,kR];exact n.sm
  refine AK.freeze 6 1 rfl rfl rfl ?_;refine AK.zh tok [] rfl ?_ rfl rfl rfl tU;simp
 |true =>
 rw[bn rfl];refine bq c [(15,ae),(1000006,ab)] rfl ?_ ?_
 .simp only[au,cP.list_fn,cP.aO,eG.list_fn,eG.aO,cH.list_fn,cH.aO,q,d.p,d.sn,d,aH,aE,kG];exact n.sm
 refine AK.gf 2 1 39 2 (eG.fn []) rfl rfl ?_;refine AK.gf 2 4 3 1 (cI.fn []) rfl rfl ?_;refine cJ c rfl ar ?_;refine AK.bY 6 (λi=>i<=s.2.1.length) (λi:Nat=>[(2,cI.sl keep),(4,.e (.one (.ptr 0 0))),(6,.e (.one (.ptr 1 0))),(8,.e (.one (.ptr 2 0))),(9,.e (.one (.ptr 3 0))),(10,dI i)])
  (λi=>UT s ((s.2.1.take i).filter λx=>keep.contains x.1) []) (λi=>s.2.1.length-i) 0 rfl ?_ rfl ?_ rfl (by omega) ?_
 .simp
 .simp[cP.list_fn,eG.list_fn,cH.list_fn]
 .intro i hi;have m:=filter_le s.2.1 (λx=>keep.contains x.1) hi;by_cases h:i<s.2.1.length
  .have g:s.2.1.getD i eG.bR=s.2.1.getD i (0,[]):=rfl;have b:(s.2.1.take (i+1)).filter (λx=>keep.contains x.1)=if keep.contains (s.2.1.getD i (0,[])).1=ab then(s.2.1.take i).filter (λx=>keep.contains x.1)++[s.2.1.getD i (0,[])]else(s.2.1.take i).filter (λx=>keep.contains x.1):=w6 h (0,[]);generalize(s.2.1.take i).filter (λx=>keep.contains x.1)=a at *;generalize s.2.1.getD i (0,[])=x at *;cases l:keep.contains x.1 with
   |true =>
    rw[bn l]at b;have j:=eG.cr a x;refine bq c [(30,ab),(40,ab)] rfl ?_ (AK.aQ (i+1) rfl (by simp) ?_ h (by omega))
    .simp[-aj,-List.contains_eq_mem,g,h,l,cI.list_fn,cI.aO,bw,show i39.bytes=32 from rfl];omega
    .rw[b];simp only[au.cat,au,bL,g,cv,e9,aH,aE];and_intros<;>first|exact cp.same|exact j|rfl|omega
   |false =>
    rw[a9 (by rw[l];simp)]at b;refine bq c [(30,ab),(40,ae)] rfl ?_ (AK.aQ (i+1) rfl (by simp) ?_ h (by omega))
    .simp[-aj,-List.contains_eq_mem,g,h,l,cI.list_fn,cI.aO,bw];omega
    .rw[b];simp
  obtain rfl:i=s.2.1.length:=by omega
  rw[cO]at m⊢;have v:=k9 s.2.1 λx=>keep.contains x.1;have o:mE (s.1,s.2.1.filter (λx=>keep.contains x.1),s.2.2):=λx j=>d.s2 x (g9.1 j).1;have t:=n.aN;generalize s.2.1.filter (λx=>keep.contains x.1)=sn at *;refine bq c [(30,ae)] rfl (by simp) (AK.leaveD rfl rfl ?_);refine cJ c rfl ar ?_;refine AK.bY 6 (λi=>i<=s.1.length) (λi:Nat=>[(2,cI.sl keep),(4,.e (.one (.ptr 0 0))),(6,.e (.one (.ptr 1 0))),(8,.e (.one (.ptr 2 0))),(11,dI i)])
   (λi=>UT s sn ((s.1.take i).map (·.1))) (λi=>s.1.length-i) 0 rfl (by simp) rfl (by simp) rfl (by omega) ?_
  intro i hi;have u:((s.1.take i).map (·.1)).length=i:=by simp;omega
  by_cases h:i<s.1.length
  .have g:s.1.getD i cP.bR=s.1.getD i (0,[]):=rfl;have b:=map_take (f:=λp:ba=>p.1) h (0,[]);generalize(s.1.take i).map (λp:ba=>p.1)=a at *;generalize s.1.getD i (0,[])=p at *;have j:=cI.cr a p.1;refine bq c [(57,ab)] rfl ?_ (AK.aQ (i+1) rfl (by simp) ?_ h (by omega))
   .simp[-aj,g,h,bw,show i3.bytes=8 from rfl];omega
   .rw[b];simp only[au.cat,au,bL,g,cv,e9,aH,aE];and_intros<;>first|exact cp.same|exact j|rfl|omega
  obtain rfl:i=s.1.length:=by omega
  rw[cO];refine bq c [(57,ae)] rfl (by simp) (AK.leaveD rfl rfl ?_);refine cJ c rfl ?_ ?_
  .simp only[au,cP.list_fn,cP.aO,eG.list_fn,eG.aO,cH.list_fn,cH.aO,aH,aE];exact⟨o,by omega,by omega⟩
  refine AK.freeze 8 2 rfl rfl rfl ?_;refine AK.freeze 6 1 rfl rfl rfl ?_;refine AK.zh tok [] rfl ?_ rfl rfl rfl tU;simp[eG.list_fn]
end
structure Vx(w:c7):Prop extends D9 w.1 where
 mrk:w.2.1.length<=4000000
 Xz:w.2.2.length<=4000000
def yx{l:List cC}(h:i<l.length):(bT (l.getD i (0,[])).2).length<=(gY l).length:=by have:=B9 l (i+1);grind[qH]
def xy(k:Int)(w:c7):mf k w=(fN k w.1&&(bh w.1.2.1.length).all (λi=>!(et (w.1.2.1.getD i (0,[]))).any λn=>!w.2.1.contains n)&&(bh w.2.2.length).all (nP w.1.1 w.2.2)):=by rw[mf,Hb];cases fN k w.1<;>simp
def Ce(k:Int)(w:c7)(q:Vx w):Ev (Cx.beside ag) 16 [dI k,LR w] [] (dB (mf k w)) []:=by
 refine Ev.bQ Tryz.func16 rfl λL=>?_;have b:bA (Cx.beside ag) [(20,sY)]:=.cons yw .nil;have z:=cP.list_fn w.1.1;have v:=eG.list_fn w.1.2.1;have A:=cH.list_fn w.1.2.2;have r:=q.toD9;rw[xy];cases y:fN k w.1
 .exact AK.dj di eD b [(14,ab)] 100 rfl (by simp[y,z,v,A,cP.aO,eG.aO,cH.aO,r]) (AK.bo rfl)
 refine AK.dj di eD b [(14,ae)] 100 rfl (by simp[y,z,v,A,cP.aO,eG.aO,cH.aO,r]) ?_;rw[fA];refine AK.Kf rfl rfl rfl λm=>?_;refine AK.dj di eD b [] 100 rfl ar ?_;refine AK.cQ (Kw m [] w.2.1) [1] rfl ?_;rw[um];refine AK.dj di eD b [(1000005,ab)] 100 rfl ar ?_;refine AK.freeze 5 2 rfl rfl rfl ?_;refine AK.dj di eD b [] 100 rfl ar ?_;refine AK.bY 3 (λi=>i<=w.1.2.1.length/\∀j,j<i->(!(et (w.1.2.1.getD j (0,[]))).any λn=>!w.2.1.contains n)=ab) (λi:Nat=>[(0,dI k),(3,.e (.one (.ptr 0 0))),(5,.e (.one (.c (.rp [.val m])))),(22,eG.sl w.1.2.1),(23,dI w.1.2.1.length),(24,dI i)]) (λ_=>[sX w,ow m w.2.1,.dead]) (λi=>w.1.2.1.length-i) 0 rfl (by simp) rfl (by simp) rfl ⟨by omega,by omega⟩ ?_;have C:=q.sN;rintro i ⟨hi,a⟩;by_cases h:i<w.1.2.1.length
 .have t:w.1.2.1.getD (i:Int).toNat eG.bR=w.1.2.1.getD i (0,[]):=by grind
  have s:=q.sm _ (gI (d:=(0,[])) h);have H:=yx h;have J:=q.aN;have F:=fV (p:=λj=>!(et (w.1.2.1.getD j (0,[]))).any λn=>!w.2.1.contains n) h;have u:=gX (p:=λj=>!(et (w.1.2.1.getD j (0,[]))).any λn=>!w.2.1.contains n) (i:=i);generalize w.1.2.1.getD i (0,[])=x at *;refine AK.dj di eD b [(25,ab)] 100 rfl (by simp;omega) ?_;rw[t];refine AK.cQ (wI x s.1 (by omega)) [] rfl ?_;refine AK.dj di eD b [] 100 rfl ar ?_;refine AK.cQ (Ke (et x) 40 [.val m] (ov m w.2.1) (λn=>!w.2.1.contains n) λn _=>Aj m w.2.1 n) [1] rfl ?_;cases E:(et x).any λn=>!w.2.1.contains n with
  |true =>
   refine AK.dj di eD b [] 100 rfl ar (AK.eX (cd.zero rfl ?_));rw[F (by grind)];simp
  |false =>
   refine AK.dj di eD b [] 100 rfl ?_ (AK.aQ (i+1) rfl (by simp) (by simp) ⟨h,u a (by grind)⟩ (by omega));simp[bw];omega
 obtain rfl:i=w.1.2.1.length:=by omega
 rw[dg.2 a,fA];refine AK.dj di eD b [(25,ae)] 100 rfl (by simp) (AK.leaveD rfl rfl ?_);refine AK.dj di eD b [] 100 rfl ar ?_;have I:=q.Xz;refine AK.bY 3 (λi=>i<=w.2.2.length/\∀j,j<i->nP w.1.1 w.2.2 j=ab) (λi:Nat=>[(0,dI k),(3,.e (.one (.ptr 0 0))),(34,cI.sl w.2.2),(35,dI w.2.2.length),(36,dI i)]) (λ_=>[sX w,ow m w.2.1,.dead]) (λi=>w.2.2.length-i) 0 rfl (by simp) rfl (by simp) rfl ⟨by omega,by omega⟩ ?_;rintro i ⟨hi,a⟩;by_cases h:i<w.2.2.length
 .have t:w.2.2.getD (i:Int).toNat cI.bR=w.2.2.getD i 0:=by grind
  have g:w.2.2.getD (i-1) cI.bR=w.2.2.getD (i-1) 0:=rfl;have B:nP w.1.1 w.2.2 i=((w.1.1.any λp=>p.1==w.2.2.getD i 0)&&xu (λx=>x) 0 w.2.2 i):=rfl;have D:=nO (f:=λx:Int=>x) (d:=0) (l:=w.2.2) (i:=i);generalize w.2.2.getD i 0=n at *;generalize w.2.2.getD (i-1) 0=n' at *;have pT:bA (Cx.beside ag) [(41,zU [cP.sl w.1.1,.e (.one (.c (.fn (.func 42) [] [.rp [.int .i64 n]])))] (dB (w.1.1.any λp=>p.1==n)))]:=.cons (DI (Kc w.1.1 42 [.int .i64 n] (λp=>p.1==n) λp _=>Ha p n)) .nil;refine AK.dj di eD b [(37,ab),(1000014,ab)] 100 rfl (by simp;omega) ?_;rw[t];refine AK.freeze 9 3 rfl rfl rfl ?_;have fin:w.1.1.any (λp=>p.1==n)=ab->xu (λx=>x) 0 w.2.2 i=ab->nP w.1.1 w.2.2 i=ab:=λE K=>by grind
  by_cases G:i=0
  .subst G;cases o:w.1.1.any (λp=>p.1==n)with
   |true =>
    refine AK.dj di eD pT [(43,ae),(60,ae)] 100 rfl ?_ (AK.aQ 1 rfl (by simp) (by simp) ⟨h,gX a (fin o rfl)⟩ (by omega));simp[bw,o,jY.sl]
   |false =>
    refine AK.dj di eD pT [(43,ae),(60,ab)] 100 rfl ?_ (AK.eX (cd.zero rfl ?_))
    .simp[o,jY.sl]
    .rw[fV h (by grind)];simp
  by_cases M:n'<n
  rotate_left
  .refine AK.dj di eD pT [(43,ab),(51,ab),(60,ab)] 100 rfl ?_ (AK.eX (cd.zero rfl ?_))
   .simp[-aj,g,bw];omega
   .rw[fV h (by grind)];simp
  cases o:w.1.1.any (λp=>p.1==n)with
  |true =>
   refine AK.dj di eD pT [(43,ab),(51,ae),(60,ae)] 100 rfl ?_ (AK.aQ (i+1) rfl (by simp) (by simp) ⟨h,gX a (fin o (by grind))⟩ (by omega));simp[-aj,g,bw,o,jY.sl];omega
  |false =>
   refine AK.dj di eD pT [(43,ab),(51,ae),(60,ab)] 100 rfl ?_ (AK.eX (cd.zero rfl ?_))
   .simp[-aj,g,bw,o,jY.sl];omega
   .rw[fV h (by grind)];simp
 obtain rfl:i=w.2.2.length:=by omega
 rw[dg.2 a];refine AK.dj di eD b [(37,ae)] 100 rfl (by simp) (AK.leaveD rfl rfl ?_);exact AK.dj di eD b [] 100 rfl ar (AK.bo rfl)
abbrev yy:dy:=oa aI (aAg fSw) (λk w=>dB (mf k w)) λ_ w=>[Vx w]
def Hc:dM (Cx.beside ag) 16 yy:=.qC λk w h=>Ce k w h
section
variable {X:Cx ag}
abbrev KpI:={q:List Int // q.length<=5}
def Hs(m:Nat)(b:Nat->Int)(i:Bytes b)(k:Nat)(o:k<=500000)(j:m<=1048576):
  dL (ι:=KpI) X 23 [.e (.one (.ptr 0 0))] [ku m b k] (λq=>cI.sl q.1) (λ_=>[ku m b (k+5:Nat)]):=by
 refine dL.oc Tryz.func23 rfl rfl rfl λp=>?_;refine aW [(1000002,ab)] rfl ar ?_;refine AK.ix 3 3 1 rfl rfl ?_;refine bx rfl ar ?_;refine AK.bY 2 (λs:Nat×List Int=>1<=s.1/\s.1<=6/\s.2.length+1<=s.1) (λs=>[(0,.e (.one (.ptr 0 0))),(3,.e (.one (.vec 1 1 s.2.length (cI.fn s.2)))),(4,dI s.1)]) (λs=>[ku m b (k+(s.1-1):Nat),.vec 3 1 s.2.length (cI.fn s.2)]) (λs=>6-s.1) (1,[]) rfl ?_ rfl ?_ rfl ⟨by decide,by decide,by decide⟩ ?_
 .simp
 .simp
 rintro⟨n,a⟩ ⟨g,l,f⟩;simp only at g l f;by_cases h:n<=5
 .refine aW [(7,ab)] rfl (by simp only[au,bl];omega) ?_;refine AK.cP (gA m b i (k+(n-1)) 2 (by omega) j (by omega)) [0] rfl (λ_=>rfl) ?_;rintro⟨v,v0,v1⟩;by_cases c:v=0
  .have d:=cI.cr a (n:Int);refine aW [(12,ab)] rfl ?_ (AK.aQ (n+1,a++[(n:Int)]) rfl ?_ ?_ ⟨by simp only;omega,by simp only;omega,by grind⟩ (by simp only;omega))
   .simp only[au,c,bw,show i3.bytes=8 from rfl,jQ,aH,aE];and_intros<;>omega
   .simp only[au.cat,au,cv,e9,aH,aE];and_intros<;>first|exact cp.same|exact d|rfl|omega
   .simp only[au.cat,au,cv,e9,aH,aE];and_intros<;>first|exact cp.same|exact d|rfl|omega
  .refine aW [(12,ae)] rfl ?_ (AK.aQ (n+1,a) rfl ?_ ?_ ⟨by simp only;omega,by simp only;omega,by simp only;omega⟩ (by simp only;omega))
   .simp only[au,bw,fy,cR,aH,aE];and_intros<;>first|exact c|omega
   .simp only[au.cat,au,aH,aE];and_intros<;>first|exact cp.same|rfl|omega
   .simp only[au.cat,au,aH,aE];and_intros<;>first|exact cp.same|rfl|omega
 obtain rfl:n=6:=by omega
 refine aW [(7,ae)] rfl (by simp) (AK.leaveD rfl rfl ?_);refine bx rfl ar ?_;refine AK.kK ⟨a,by omega⟩ (AK.dG [0] rfl ?_ rfl rfl rfl xz);simp
end
section
variable {X:Cx ag}
def lj(n:Int):∀(l a:List Int)(b:Bool),(a++l).Pairwise (· < ·)->(if b=ab then True else ∀x∈a,x<n)->(b=ab->∀x∈l,n<=x/\(n∈a)) ->
  (if(l.foldl (gu n) (a,b)).2=ab then(l.foldl (gu n) (a,b)).1 else(l.foldl (gu n) (a,b)).1++[n]).Pairwise (· < ·)
 |[],a,b,h,f,_=>by
  simp only[jR]at h;cases b<;>simp at f⊢
  .exact po.2 ⟨h,by simp,by simpa using f⟩
  .exact h
 |y::l,a,b,h,f,i=>by
  rw[iB];obtain⟨j,q2,g⟩:=po.1 h;obtain⟨p4,k⟩:=mo.1 q2;have m:∀x∈a,x<y:=λx c=>g x c y iA;have p2:((a++[y])++l).Pairwise (· < ·):=by simpa using h
  have p3:(a++l).Pairwise (· < ·):=po.2 ⟨j,k,λx c z d=>g x c z (kE _ d)⟩;unfold gu;cases b with
  |true =>
   simp only[b5];split
   .exact lj n l a ab p3 (by simp) λ_ x c=>⟨by grind,(i rfl y iA).2⟩
   .exact lj n l (a++[y]) ab p2 (by simp) λ_ x c=>⟨by grind,List.mem_append_left _ (i rfl y iA).2⟩
  |false =>
   simp only[gJ,bM]at f⊢;split
   .split
    .rename_i e;subst e;exact lj y l (a++[y]) ab p2 (by simp) λ_ x c=>⟨by grind,by simp⟩
    .refine lj n l (a++[n,y]) ab ?_ (by simp) λ_ x c=>⟨by grind,by simp⟩
     rw[jP];refine po.2 ⟨j,mo.2 ⟨λz d=>?_,q2⟩,λx c z d=>?_⟩
     .rcases dK.1 d with rfl|d
      .omega
      .have:=p4 z d;omega
     .rcases dK.1 d with rfl|d
      .exact f x c
      .exact g x c z d
   .exact lj n l (a++[y]) ae p2 (by simp;grind) (by simp)
def Lu{l:List Int}{n:Int}(h:l.Pairwise (· < ·)):(k6 l n).Pairwise (· < ·):=lj n l [] ae (by simpa using h) (by simp) (by simp)
def yL:∀{l a:List Int},a.Pairwise (· < ·)->(l.foldl k6 a).Pairwise (· < ·)
 |[],a,h=>h
 |x::l,a,h=>yL (l:=l) (Lu h)
def te(l:List cC):(dz l).Pairwise (· < ·):=by
 unfold dz;have:∀(l:List cC) (a:List Int),a.Pairwise (· < ·)->(l.foldl (λout x=>(gj x.2).foldl k6 out) a).Pairwise (· < ·):=λl=>by
  induction l with
  |nil=>exactλa h=>h
  |cons x l b=>exactλa h=>b _ (yL h)
 exact this l [] List.Pairwise.nil
def Ep(l:List cC):(l.flatMap et).length<=(gY l).length:=by
 induction l with
 |nil=>simp
 |cons x l a =>
  have:(et x).length<=(bT x.2).length:=by unfold et;rw[<-fh (bT x.2)];exact nQ _
  simp only[gY,oA,cv]at a⊢;omega
def qM(l:List Int)(v:Int):Int:=match l.findIdx? (λx=>x==v)with
 |some i=>i
 |none=>-1
def Hv(l:List Int)(v:Int):Ev X 66 [cI.sl l,dI v] [] (dI (qM l v)) []:=by
 refine Ev.bQ Tryz.func66 rfl λd=>?_;have f:=d.sl 0 rfl;refine bx rfl ar ?_;refine AK.bY 0 (λi=>i<=l.length/\∀j,j<i->l.getD j 0≠v) (λi:Nat=>[(0,cI.sl l),(1,dI v),(7,dI l.length),(8,dI i)]) (λ_=>[]) (λi=>l.length-i) 0 rfl (by simp) rfl ar rfl ⟨by omega,by omega⟩ ?_;rintro i ⟨hi,a⟩;by_cases h:i<l.length
 .have b:l.getD (i:Int).toNat cI.bR=l.getD i 0:=rfl;by_cases c:l.getD i 0=v
  .have:qM l v=i:=by
    have:l.findIdx? (λx=>x==v)=aa i:=by rw[r8];exact⟨h,by grind,λj e=>by grind⟩
    simp only[qM,this]
   rw[this];refine aW [(9,ab),(16,ab)] rfl ?_ (AK.eX (cd.zero rfl));simp only[au,b,bl,hO,aH,aE];and_intros<;>first|exact c.symm|omega
  .refine aW [(9,ab),(16,ae)] rfl ?_ (AK.aQ (i+1) rfl ?_ ar ⟨h,λj e=>?_⟩ (by omega))
   .simp only[au,b,bw,bl,fy,aH,aE];and_intros<;>first|grind|omega
   .simp
   grind
 .have:qM l v=-1:=by
   have:l.findIdx? (λx=>x==v)=af:=by grind[List.getElem_of_mem]
   simp only[qM,this]
  rw[this];refine aW [(9,ae)] rfl (by simp only[au,b7];omega) (AK.leaveD rfl rfl ?_);exact bx rfl ar (AK.bo rfl)
abbrev AA:dy:=oa (aL cI) aI (λl v=>dB (l.contains v)) λ_ _=>[]
def FU:dM X 31 AA:=.qC λl v _=>by refine Ev.bQ Tryz.func31 rfl λb=>?_;have a:bA X [(66,oa (aL cI) aI (λl v=>dI (qM l v)) λ_ _=>[])]:=.cons (.qC λl v _=>Hv l v) .nil;refine bZ a rfl (by simp only[au];exact cI.aO _) (AK.bo rfl ?_);simp only[au,cI.list_fn,aE];unfold qM;grind
def Oi(x:cC)(keep:List Int):Ev X 30 [BH x,.e (.one (.c (.rp [.sl ae 1 keep.length (cI.fn keep)])))] [] (dB (!keep.contains x.1)) []:=by refine Ev.bQ Tryz.func30 rfl λb=>?_;have a:bA X [(31,AA)]:=.cons FU .nil;refine bZ a rfl (by simp only[au];exact cI.aO _) (AK.bo rfl ?_);simp only[cI.list_fn];simp
abbrev UY(s:bk)(fl:List cC)(ms:A)(l:List Int)(b:ai)(a:List Int):List bd:=[qN s,.dead,.cells 32 Hq,.dead,.dead,.cells 32 [p0 cP s.1,p0 eG fl,p0 cH s.2.2,ms,.vec 6 1 l.length (cI.fn l)],.vec 3 1 l.length (cI.fn l),ow b a]
def yJ(k:Int)(s:bk)(keep:List Int)(c:iM s)(m:D9 s):Ev (Cx.beside ag) 10 [dI k,qg s,cI.sl keep] [] (VB (Cw k s keep).1 (Cw k s keep).2) []:=by
 refine Ev.n7 Tryz.func10 rfl rfl rfl λC=>?_;have b:bA (Cx.beside ag) [(20,sY)]:=.cons yw .nil;have D:=c.p;have w:=c.sn;unfold Cw;cases v:fN k s with
 |false =>
  refine AK.dj di eD b [(17,ab)] 200 rfl ?_ ?_
  .simp only[au,cP.list_fn,cP.aO,eG.list_fn,eG.aO,cH.list_fn,cH.aO,v,m,aH,aE,kR]
  refine AK.freeze 6 2 rfl rfl rfl ?_;refine AK.zh eD [] rfl ?_ rfl rfl rfl tU;simp
 |true =>
 rw[bn rfl];refine AK.dj di eD b [(17,ae)] 200 rfl ?_ ?_
 .simp only[au,cP.list_fn,cP.aO,eG.list_fn,eG.aO,cH.list_fn,cH.aO,v,m,aH,aE,kG]
 refine AK.cQ (oZ s c.p c.p2 c.sn c.s2 c.h) [] rfl ?_;refine AK.dj di eD b [(1000004,ab)] 200 rfl ar ?_;refine AK.freeze 5 1 rfl rfl rfl ?_;refine AK.dj di eD b [] 200 rfl ar ?_;refine AK.cP (Nn s.2.1 c.sn 30 [.sl ae 1 keep.length (cI.fn keep)] (λx=>!keep.contains x.1) λx _=>Oi x keep) [4] rfl (λ_=>rfl) ?_;rintro⟨es,o⟩;simp only[Bool.not_not]at o⊢;have q:(s.2.1.filter λx=>keep.contains x.1).length<=s.2.1.length:=kD _ _;have r:∀x∈s.2.1.filter (λx=>keep.contains x.1),x∈s.2.1:=λx l=>(g9.1 l).1;have B:(gY (s.2.1.filter λx=>keep.contains x.1)).length<=(gY s.2.1).length:=k9 s.2.1 λx=>keep.contains x.1;generalize s.2.1.filter (λx=>keep.contains x.1)=fl at *;refine AK.dj di eD b [(1000005,ab)] 200 rfl ar ?_;refine AK.ru 4 rfl rfl rfl (by simp;exact q) (by simp;exact⟨ar,q⟩) ?_;refine AK.ru 3 rfl rfl rfl (by simp) (by simp;exact ar) ?_;refine AK.gf 5 4 3 1 (cI.fn []) rfl rfl ?_;refine AK.norm [qN s,.dead,.cells 32 Hq,.dead,.dead,.cells 32 [p0 cP s.1,p0 eG fl,p0 cH s.2.2,g6,.vec 6 1 0 (cI.fn [])],.vec 3 1 0 (cI.fn [])] rfl ?_ ?_
 .simp only[au.cat,au,aH,aE];and_intros<;>first|exact cp.same|exactλi hi=>o i hi|rfl|simp
 refine AK.dj di eD b [] 200 rfl ar ?_;refine AK.Kf rfl rfl rfl λj=>?_;refine AK.dj di eD b [] 200 rfl ar ?_;refine AK.bY 8 (λi=>i<=fl.length) (λi:Nat=>[(4,.e (.one (.ptr 0 0))),(6,.e (.one (.ptr 2 0))),(8,.e (.one (.ptr 5 0))),(9,Pa j),(32,eG.sl fl),(33,dI fl.length),(34,dI i)])
  (λi=>UY s fl g6 [] j ((fl.take i).flatMap et)) (λi=>fl.length-i) 0 rfl (by simp) rfl (by simp) rfl (by omega) ?_
 .intro i hi;by_cases h:i<fl.length
  .have t:fl.getD i eG.bR=fl.getD i (0,[]):=rfl;have l:=m.sm _ (r _ (gI (d:=(0,[])) h));have A:=yx h;have u:=m.aN;have g:(fl.take (i+1)).flatMap et=(fl.take i).flatMap et++et (fl.getD i (0,[])):=by rw[bt h (0,[])];simp
   generalize fl.getD i (0,[])=x at *;refine AK.dj di eD b [(35,ab)] 200 rfl (by simp;omega) ?_;simp only[bL,t];refine AK.cQ (wI x l.1 (by omega)) [] rfl ?_;refine AK.dj di eD b [] 200 rfl ar ?_;refine AK.cQ (Kw j ((fl.take i).flatMap et) (et x)) [7] rfl ?_;rw[<-g];refine AK.dj di eD b [] 200 rfl ?_ (AK.aQ (i+1) rfl (by simp) (by simp) h (by omega));simp[bw];omega
  obtain rfl:i=fl.length:=by omega
  rw[cO];have z:=Ep fl;have u:=m.aN;refine AK.dj di eD b [(35,ae)] 200 rfl (by simp) (AK.leaveD rfl rfl ?_);refine AK.dj di eD b [] 200 rfl ar ?_;refine AK.cQ (Lq j (fl.flatMap et) (dz fl) (by omega) (te fl) λn=>by rw[iw];simp[qI]) [7] rfl ?_;refine AK.dj di eD b [] 200 rfl ar ?_;refine AK.bY 8 (λi=>i<=s.1.length) (λi:Nat=>[(4,.e (.one (.ptr 0 0))),(6,.e (.one (.ptr 2 0))),(8,.e (.one (.ptr 5 0))),(47,cP.sl s.1),(48,dI s.1.length),(49,dI i)])
   (λi=>UY s fl (p0 cI (dz fl)) ((s.1.take i).map (·.1)) j (fl.flatMap et)) (λi=>s.1.length-i) 0 rfl (by simp) rfl (by simp) rfl (by omega) ?_
  intro i hi;have y:((s.1.take i).map (·.1)).length=i:=by simp;omega
  by_cases h:i<s.1.length
  .have t:s.1.getD i cP.bR=s.1.getD i (0,[]):=rfl;have g:=map_take (f:=λp:ba=>p.1) h (0,[]);generalize(s.1.take i).map (λp:ba=>p.1)=a at *;generalize s.1.getD i (0,[])=p at *;have l:=cI.cr a p.1;refine AK.dj di eD b [(50,ab)] 200 rfl ?_ (AK.aQ (i+1) rfl (by simp) ?_ h (by omega))
   .simp[-aj,t,h,bw,show i3.bytes=8 from rfl];omega
   .rw[g];simp only[au.cat,au,bL,t,cv,e9,aH,aE];and_intros<;>first|exact cp.same|exact l|rfl|omega
  obtain rfl:i=s.1.length:=by omega
  rw[cO];refine AK.dj di eD b [(50,ae)] 200 rfl (by simp) (AK.leaveD rfl rfl ?_);refine AK.dj di eD b [] 200 rfl ar ?_;refine AK.freeze 8 5 rfl rfl rfl ?_;refine AK.freeze 6 2 rfl rfl rfl ?_;refine AK.zh eD [] rfl ?_ rfl rfl rfl tU;simp[eG.list_fn]
end
end R1
end Go.AM
