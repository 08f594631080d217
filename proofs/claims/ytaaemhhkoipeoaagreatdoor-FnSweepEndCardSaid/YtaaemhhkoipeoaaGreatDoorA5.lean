/- Part 5. No condition. -/
import Derived.Test.YtaaemhhkoipeoaaGreatDoorA4
set_option linter.all false
set_option maxHeartbeats 8000000
open Go.Proofs
open Go renaming Value → aj, TypeId → av, Frame → aU, FuncId → aM, execOp → an, undef → ai, Operand → aE, World → aA, Program → aK, Oper → aD, Goroutine → ak
open Option renaming some → aa, none → af
open Bool renaming true → ab, false → ae
open List renaming getD_eq_getElem?_getD → ah, range → bg
open Nat renaming beq → az, ble → bC
open Go.Op renaming bytesLess → bd
open Go.Proofs.Tryz renaming prog → ag
namespace Go.AM
variable {n k l b i j:Nat}{E:av}{L:Array Bool}{M:Mem}{N:Nat}{P:aK}{S:ak->St->Prop}{c:Code}{g:ak}{o:aD}{s:St}{t:av}{v:aj}{w:aA}{x y:aE}{α:Type}{η:aE->D}{ι:Type}{σ:List bm}{φ:Fr}{all:List aD}{jN:Array av}{cap:List C}{cy:List D}{cs:List aU}{ds:List (Nat×Bool)}{es:Nat->List C}{fo:aE}{gs:Array ak}{obs:List Prop}{off:Nat}{op:BinOp}{ops:Array aD}{ps:List Prop}{rest:List aD}{s':St}{tx:Bool}{ty:av}{val:Nat->Nat->aj}{vs:List aj}{w':aA}{xs:Array aE}{σ' σs:List bm}{res:ι->D}{σ1:ι->List bm}
variable {CT:List (Nat×dv)}{K:List It}{Qf:Post}{T:List (Nat×TI)}{ie:TI}
namespace R1
section
variable {X:Cx ag}
def fileOf(k:Int)(ps:List bo)(x:gK):Option bu:=match dJ k ps x.2 with
 |none=>af
 |some l=>match fZ l with
  |none=>af
  |some t=>aa (x.1,t)
def c8(k:Int)(ps:List bo)(l:List gK):List bu:=l.map λx=>(fileOf k ps x).getD ([],[])
def cj(k:Int)(s:cW)(ps:List bo):Option (List bu) :=
 if cD k&&s.2.all (λx=>(fileOf k ps x).isSome)&&cE (c8 k ps s.2)then aa (c8 k ps s.2)else af
abbrev Nn(a:List bu)(b:Bool):D:=.fK [.one (.c (.sl ae 2 a.length (cF.fn a))),.one (.c (.bool b))]
abbrev F4(s:cW):D:=.e (.agg [.c (.int .i64 s.1),.c (.sl ae 2 s.2.length (cL.fn s.2))])
theorem o5{k:Int}{ps:List bo}{l:List gK}(h:i<l.length):c8 k ps (l.take (i+1))=c8 k ps (l.take i)++[(fileOf k ps (l.getD i ([],[]))).getD ([],[])]:=by unfold c8;grind[List.take_add_one]
def o7{k:Int}{ps:List bo}{s:cW}(h:i<s.2.length)(a:fileOf k ps (s.2.getD i ([],[]))=af):cj k s ps=af:=by unfold cj;rw[aW];grind
def xP{k:Int}{ps:List bo}{ns:List Int}{l:List Bs}(h:dJ k ps ns=aa l)(b:ns.length<=4000000):l.flatten.length<=140737488355328/\l.length<=4000000:=by
 unfold dJ at h;split at h
 .rename_i a;cases h;refine⟨?_,by grind⟩;have key:∀ns:List Int,(ns.all λn=>(di k ps n).isSome)=ab->(ns.map λn=>(di k ps n).getD []).flatten.length<=8*ns.length:=by
   intro ns;induction ns with
   |nil=>grind
   |cons n ns ih =>
    intro h;simp only[List.all_cons,bJ]at h;grind[yw]
  grind
 grind
def BY(k:Int)(s:cW)(ps:List bo)(J:s.2.length<=4000000)(G:∀x∈s.2,x.2.length<=4000000):
  Ev (Cx.beside ag) 72 [dI k,F4 s,cP.sl ps] [] (Nn ((cj k s ps).getD []) (cj k s ps).isSome) []:=by
 refine Ev.bQ Tryz.func72 rfl λI=>?_;have v:=I.sl 2 rfl;have a:bR (Cx.beside ag) [(35,kF aI (λk=>dB (cD k)) λ_=>[])]:=.cons t35 .nil;cases g:cD k with
 |false =>
  refine aO a [(15,ae),(16,ab)] rfl ?_ (AK.bq rfl ?_)
  .simp[g]
  .simp[cj,g]
 |true =>
  have q:dH (Cx.work ag) 133 (lN k):=QG Tr g;refine aO a [(15,ab),(16,ae),(1000004,ab)] rfl ?_ ?_
  .simp[g]
  refine AK.ik 8 115 2 rfl rfl ?_;refine bX a rfl aq ?_;refine AK.bS 2 (λi=>i<=s.2.length/\∀j,j<i->(fileOf k ps (s.2.getD j ([],[]))).isSome=ab) (λi:Nat=>[(0,dI k),(2,cP.sl ps),(4,.e (.one (.ptr 0 0))),(8,.e (.one (.vec 1 2 (c8 k ps (s.2.take i)).length (cF.fn (c8 k ps (s.2.take i)))))),(18,cL.sl s.2),(19,dI s.2.length),(20,dI i)]) (λi=>[.cells 68 [.c (.int .i64 s.1),.c (.sl ae 2 s.2.length (cL.fn s.2))],.vec 115 2 (c8 k ps (s.2.take i)).length (cF.fn (c8 k ps (s.2.take i)))]) (λi=>s.2.length-i) 0 rfl ?_ rfl ?_ rfl ⟨by omega,by omega⟩ ?_
  .simp[c8]
  .simp[c8]
  rintro i ⟨hi,y⟩;by_cases h:i<s.2.length
  .have r:s.2.getD i ([],[])∈s.2:=by grind
   generalize d:s.2.getD i ([],[])=x at r;have n:=G x r;have f:=BZ q ps x.2 n;cases b:dJ k ps x.2 with
   |none =>
    rw[b]at f;refine aO a [(21,ab)] rfl ?_ ?_
    .exact⟨by omega,by omega,dc (by omega)⟩
    refine AK.cQ (d▸f) [] rfl ?_;refine aO a [(33,ab)] rfl ?_ (AK.eP (cg.zero rfl ?_))
    .simp
    .have e:fileOf k ps x=af:=by simp[fileOf,b]
     rw[o7 h (by grind)];simp
   |some l =>
    obtain⟨p,D⟩:=xP b n;rw[b]at f;have o:=Ei (X:=Cx.beside ag) l p;refine aO a [(21,ab)] rfl ?_ ?_
    .exact⟨by omega,by omega,dc (by omega)⟩
    refine AK.cQ (d▸f) [] rfl ?_;refine aO a [(33,ae)] rfl ?_ ?_
    .simp
    refine AK.cQ o [] rfl ?_;cases z:fZ l with
    |none =>
     refine aO a [(40,ab)] rfl ?_ (AK.eP (cg.zero rfl ?_))
     .simp
     .have e:fileOf k ps x=af:=by simp[fileOf,b,z]
      rw[o7 h (by grind)];simp
    |some t =>
     have e:fileOf k ps x=aa (x.1,t):=by simp[fileOf,b,z]
     have E:s.2.getD (i:Int).toNat cL.b8=x:=d;have F:(c8 k ps (s.2.take i)).length<=4000000:=by simp[c8];omega
     have B:cq ((c8 k ps (s.2.take i)).length+1) (cR (c8 k ps (s.2.take i)).length (cF.fn (c8 k ps (s.2.take i))) λu=>[[C.str (s.2.getD (i:Int).toNat cL.b8).1,C.str ((aa t).getD [])]].getD u []) (cF.fn (c8 k ps (s.2.take (i+1)))):=by rw[o5 h,d,e,E];exact cF.cm (c8 k ps (s.2.take i)) (x.1,t)
     have A:(c8 k ps (s.2.take i)).length+1=(c8 k ps (s.2.take (i+1))).length:=by grind[o5]
     refine aO a [(40,ae)] rfl ?_ (AK.aQ (i+1) rfl ?_ ?_ ?_ ?_)
     .refine⟨by simp only[bt];omega,rfl,rfl,?_,rfl⟩;show _*32<=_;omega
     .refine ar.cat.2 ⟨rfl,ar.cat.2 ⟨⟨rfl,cq.same⟩,ar.cat.2 ⟨aq,ar.cat.2 ⟨⟨A,B⟩,ar.cat.2 ⟨⟨rfl,cq.same⟩,ar.cat.2 ⟨rfl,ar.cat.2 ⟨?_,aq⟩⟩⟩⟩⟩⟩⟩;simp
     .exact ar.cat.2 ⟨ar.cat.2 ⟨rfl,ar.cat.2 ⟨⟨rfl,cq.same⟩,aq⟩⟩,ar.cat.2 ⟨⟨A,B⟩,aq⟩⟩
     .grind
     .omega
  .have e:i=s.2.length:=by omega
   subst e;refine aO a [(21,ae)] rfl (by simp) (AK.leaveD rfl rfl ?_);rw[cB];have m:=Ej (X:=Cx.beside ag) (c8 k ps s.2);rw[Hf]at m;refine bX a rfl aq ?_;refine AK.cQ m [] rfl ?_;have H:s.2.all (λx=>(fileOf k ps x).isSome)=ab:=List.all_eq_true.2 λx r=>by grind[List.mem_iff_getElem]
   cases w:cE (c8 k ps s.2)with
   |false =>
    refine aO a [(51,ab)] rfl ?_ (AK.bq rfl ?_)
    .simp
    .simp[cj,w]
   |true =>
    refine aO a [(51,ae)] rfl ?_ (AK.bq rfl ?_)
    .simp
    .simp[cj,w,g,H]
abbrev bw:=List bo×List cW×List (Int×Int)
def j0(s:bw):Prop:=∀x∈s.2.1,x.2.length<=4000000/\∀y∈x.2,y.2.length<=4000000
abbrev l4(s:bw):D:=.e (.agg [.c (.sl ae 2 s.1.length (cP.fn s.1)),.c (.sl ae 2 s.2.1.length (cX.fn s.2.1)),.c (.sl ae 2 s.2.2.length (cH.fn s.2.2))])
def eU(k:Int)(s:bw)(no:Int):Option (List bu):=match s.2.1.find? (λx=>x.1==no)with
 |none=>af
 |some x=>cj k x s.1
def tc:dv:=Dj aI (BV cL) (aL cP) (λk s ps=>Nn ((cj k s ps).getD []) (cj k s ps).isSome) λ_ s _=>[s.2.length<=4000000,∀x∈s.2,x.2.length<=4000000]
def yx:dH (Cx.beside ag) 72 tc:=.Ih λk s ps h=>BY k s ps h.1 h.2
def Ah(k:Int)(s:bw)(no:Int)(g:j0 s):
  Ev (Cx.beside ag) 39 [dI k,l4 s,dI no] [] (Nn ((eU k s no).getD []) (eU k s no).isSome) []:=by
 refine Ev.bQ Tryz.func39 rfl λl=>?_;have a:bR (Cx.beside ag) [(76,WG),(72,tc)]:=.cons t76 (.cons yx .nil);have f:cX.list s.2.1.length (cX.fn s.2.1)=s.2.1:=cX.list_fn _;refine aO a [(1000001,ab)] rfl aq ?_;refine AK.freeze 5 1 rfl rfl rfl ?_;rcases BT s.2.1 no with⟨c,b⟩|⟨i,hi,c,b⟩
 .refine aO a [(14,ab)] rfl ?_ (AK.bq rfl ?_)
  .simp only[ar,f,c];exact⟨rfl,cX.au _⟩
  .simp[eU,b]
 .have j:s.2.1.getD i (0,[])∈s.2.1:=by grind
  obtain⟨h,q2⟩:=g _ j;have e:eU k s no=cj k (s.2.1.getD i (0,[])) s.1:=by simp only[eU,b]
  have d:s.2.1.getD (qw (cX.list s.2.1.length (cX.fn s.2.1)) no).toNat cX.b8=s.2.1.getD i (0,[]):=by grind
  refine aO a [(14,ae)] rfl ?_ (AK.bq rfl ?_)
  .simp only[ar,d,cL.list_fn,f,c];exact⟨cL.au _,cP.au _,h,q2,by omega,by omega,gH (by omega),cX.au _⟩
  .simp only[d,cL.list_fn,cP.list_fn,e];exact ar.cat.2 ⟨⟨aq,cq.same⟩,ar.cat.2 ⟨aq,aq⟩⟩
def No:Arg bw:=⟨l4,λd=>match d with
 |.e (.agg [.c a,.c b,.c c])=>match jO 2 (.e (.one (.c a)))with
  |some (g,k)=>match jO 2 (.e (.one (.c b)))with
   |some (j,l)=>match jO 2 (.e (.one (.c c)))with
    |some (m,i)=>aa ((cP.list g k,cX.list j l,cH.list m i),[cP.fits g k,cX.fits j l,cH.fits m i])
    |none=>af
   |none=>af
  |none=>af
 |_=>af,λ{d a o} h ho σ s v r=>by
 split at h
 .split at h
  .rename_i g k x;split at h
   .rename_i j l q;split at h
    .rename_i m i p;cases h;obtain⟨vs,t,f⟩:=r
     match vs,f with
     |[],f=>exact f.elim
     |[_],f=>exact f.2.elim
     |[_,_],f=>exact f.2.2.elim
     |_::_::_::_::_,f=>exact f.2.2.2.elim
     |[w,u,n],f =>
      exact⟨_,t,cP.jb (σ:=[]) (s:=s) (v:=w) x ho.1 f.1,cX.jb (σ:=[]) (s:=s) (v:=u) q ho.2.1 f.2.1,cH.jb (σ:=[]) (s:=s) (v:=n) p ho.2.2 f.2.2.1,aq⟩
    grind
   grind
  grind
 grind⟩
def wG:dv:=Dj aI No aI (λk s n=>Nn ((eU k s n).getD []) (eU k s n).isSome) λ_ s _=>[j0 s]
def Ek:dH (Cx.beside ag) 39 wG:=.Ih λk s n h=>Ah k s n h
abbrev fI(p:bo)(i:Nat):db:=p.2.getD i (0,[])
def iB(k:Int)(p:bo)(i:Nat):Bool:=right k (fI p i)&&(i==0||decide ((fI p (i-1)).1<(fI p i).1))
theorem te(k:Int)(p:bo):jc k p=((bg p.2.length).all (iB k p)&&(cD k&&decide (1<=p.1)&&decide (p.1<=99)&&decide (1<=p.2.length)&&decide (p.2.length<=4))):=by
 have e:(p.2.all (right k)&&Ai (p.2.map (·.1)))=(bg p.2.length).all (iB k p):=by
  rw[nF,bJ,List.all_eq_true,List.all_eq_true];unfold Ai;rw[List.all_eq_true];have a:∀i,i<p.2.length->(p.2.map (·.1)).getD i 0=(fI p i).1:=λi hi=>by grind
  constructor
  .rintro⟨d,b⟩ i hi;have hi:=rA.1 hi;have q:=b i (by grind);rw[a i hi]at q;unfold iB;rw[d (fI p i) (by grind),eL];rcases nw i with rfl|f
   .rfl
   grind
  .intro h;refine⟨λx c=>?_,λi hi=>?_⟩
   .obtain⟨i,hi,rfl⟩:=ln.1 c;have:=h i (rA.2 hi);simp only[iB,bJ]at this;grind
   .have hi:i<p.2.length:=by grind
    have:=h i (rA.2 hi);simp only[iB,bJ]at this;grind
 rw[<-e];unfold jc;cases cD k<;>cases decide (1<=p.1)<;>cases decide (p.1<=99)<;>cases decide (1<=p.2.length)<;>cases decide (p.2.length<=4)<;>simp
def yy{k:Int}{p:bo}(hi:i<p.2.length)(h:iB k p i=ae):jc k p=ae:=by grind[te]
theorem qS{k:Int}{x:db}(a:cD k=ab):(chunk k x).isSome=right k x:=by unfold chunk right;grind
def Hg(k:Int)(p:bo)(d:cD k=ab)(v:p.2.length<=4000000):Ev X 68 [dI k,qo p] [] (dB (jc k p)) []:=by
 refine Ev.bQ Tryz.func68 rfl λy=>?_;have a:bR X [(35,kF aI (λk=>dB (cD k)) λ_=>[]),(93,nt R5 aI (λx k=>Ae (chunk k x)) λ_ k=>[cD k=ab])]:=.cons t35 (.cons (JV Tr) .nil);refine bX a rfl aq ?_;refine AK.bS 1 (λi=>i<=p.2.length/\∀j,j<i->iB k p j=ab) (λi:Nat=>[(0,dI k),(3,.e (.one (.ptr 0 0))),(10,ef.sl p.2),(11,dI p.2.length),(12,dI i)]) (λ_=>[.cells 39 [.c (.int .i64 p.1),.c (sP p)]]) (λi=>p.2.length-i) 0 rfl ?_ rfl ?_ rfl ⟨by omega,by omega⟩ ?_
 .simp
 .simp
 rintro i ⟨hi,g⟩;by_cases h:i<p.2.length
 .cases m:right k (fI p i)with
  |false =>
   have q:(chunk k (fI p i)).isSome=ae:=by grind[qS]
   refine aO a [(13,ab),(24,ab),(40,ab)] rfl ?_ (AK.eP (cg.zero rfl ?_))
   .refine⟨rfl,?_,d,by omega,by omega,dc (by omega)⟩;grind
   .rw[yy h (by simp only[iB,m,pD])];simp
  |true =>
   have q:(!(chunk k (fI p i)).isSome)=ae:=by grind[qS]
   by_cases u:i=0
   .subst u;refine aO a [(13,ab),(24,ae),(27,ae),(40,ae)] rfl ?_ (AK.aQ 1 rfl ?_ ?_ ⟨by omega,λj l=>?_⟩ (by omega))
    .simp only[ar,bt];grind
    .simp
    .simp
    .have:j=0:=by omega
     subst this;simp only[iB,m,eL];rfl
   .have t:((i:Int)-1).toNat=i-1:=by omega
    cases s:decide ((fI p (i-1)).1<(fI p i).1)with
    |false =>
     refine aO a [(13,ab),(24,ae),(27,ab),(38,ab),(40,ab)] rfl ?_ (AK.eP (cg.zero rfl ?_))
     .have o:(p.2.getD ((i:Int)-1).toNat ef.b8).1=(fI p (i-1)).1:=by rw[t];rfl
      refine⟨rfl,dc ?_,by omega,by omega,by simp only[bt];omega,dc (by omega),q,d,by omega,by omega,dc (by omega)⟩;rw[o];show(fI p i).1<=_;grind
     .rw[yy h (by simp only[iB,m,s,eL,Bool.or_false];grind)];simp
    |true =>
     refine aO a [(13,ab),(24,ae),(27,ab),(38,ae),(40,ae)] rfl ?_ (AK.aQ (i+1) rfl ?_ ?_ ⟨by omega,λj l=>?_⟩ (by omega))
     .have o:(p.2.getD ((i:Int)-1).toNat ef.b8).1=(fI p (i-1)).1:=by rw[t];rfl
      refine⟨by simp only[bt];omega,rfl,gH ?_,by omega,by omega,by simp only[bt];omega,dc (by omega),q,d,by omega,by omega,dc (by omega)⟩;rw[o];show¬(fI p i).1<=_;grind
     .simp
     .simp
     .rcases uG.1 l with l|rfl
      .grind
      .simp only[iB,m,s,eL,Bool.or_true]
 .have e:i=p.2.length:=by omega
  subst e;refine aO a [(13,ae)] rfl (by simp) (AK.leaveD rfl rfl ?_);have w:(bg p.2.length).all (iB k p)=ab:=List.all_eq_true.2 λj l=>g j (rA.1 l);rw[te,w,d];by_cases b:1<=p.1
  .by_cases f:p.1<=99
   .by_cases n:1<=p.2.length
    .by_cases r:p.2.length<=4
     .refine aO a [(43,ab),(47,ab),(52,ab),(58,ab),(64,ab)] rfl ?_ (AK.bq rfl ?_)
      .exact⟨dc (by omega),dc (by omega),dc f,dc b,d⟩
      .simp[b,f,n,r]
     .refine aO a [(43,ab),(47,ab),(52,ab),(58,ab),(64,ae)] rfl ?_ (AK.bq rfl ?_)
      .exact⟨gH (by omega),dc (by omega),dc f,dc b,d⟩
      .simp[b,f,n,r]
    .refine aO a [(43,ab),(47,ab),(52,ab),(58,ae)] rfl ?_ (AK.bq rfl ?_)
     .exact⟨gH (by omega),dc f,dc b,d⟩
     .simp[b,f,n]
   .refine aO a [(43,ab),(47,ab),(52,ae)] rfl ?_ (AK.bq rfl ?_)
    .exact⟨gH f,dc b,d⟩
    .simp[b,f]
  .refine aO a [(43,ab),(47,ae)] rfl ?_ (AK.bq rfl ?_)
   .exact⟨gH b,d⟩
   .simp[b]
def F5:dv:=nt aI (BV ef) (λk p=>dB (jc k p)) λk p=>[cD k=ab,p.2.length<=4000000]
def Np:dH X 68 F5:=.qn λk p h=>Hg k p h.1 h.2
def Ep(l:List (Int×Int))(d:l.length<=4000000):Ev X 89 [cH.sl l] [] (cH.sl l) []:=by
 refine Ev.bQ Tryz.func89 rfl λc=>?_;refine bA rfl aq ?_;refine AK.FQ tok rfl rfl rfl rfl rfl rfl λb a=>?_;cases b with
 |true =>
  obtain rfl:=iV (a rfl);refine bA rfl aq ?_;refine AK.bq rfl ?_;simp[cq]
 |false =>
  refine bA rfl ⟨show(0+l.length)*16<=_ by omega,.inl rfl⟩ ?_;refine AK.bq rfl ?_;simp[cq,cR]
def Er(l:List db)(d:l.length<=4000000):Ev X 112 [ef.sl l] [] (ef.sl l) []:=by
 refine Ev.bQ Tryz.func112 rfl λc=>?_;refine bA rfl aq ?_;refine AK.FQ tok rfl rfl rfl rfl rfl rfl λb a=>?_;cases b with
 |true =>
  obtain rfl:=iV (a rfl);refine bA rfl aq ?_;refine AK.bq rfl ?_;simp[cq]
 |false =>
  refine bA rfl ⟨show(0+l.length)*24<=_ by omega,.inl rfl⟩ ?_;refine AK.bq rfl ?_;simp[cq,cR]
def qU(l:List Int)(d:l.length<=4000000):Ev X 56 [cI.sl l] [] (cI.sl l) []:=by
 refine Ev.bQ Tryz.func56 rfl λc=>?_;refine bA rfl aq ?_;refine AK.FQ tok rfl rfl rfl rfl rfl rfl λb a=>?_;cases b with
 |true =>
  obtain rfl:=iV (a rfl);refine bA rfl aq ?_;refine AK.bq rfl ?_;simp[cq]
 |false =>
  refine bA rfl ⟨show(0+l.length)*8<=_ by omega,.inl rfl⟩ ?_;refine AK.bq rfl ?_;simp[cq,cR]
def _root_.Go.AM.iT.pZ(c:iT α)(l:List α)(h:i<l.length)(d:α):cq (i+1) (cR i (c.fn (l.take i)) (λq=>[c.enc (l.getD i d)].getD q [])) (c.fn (l.take (i+1))):=by
 have e:l.take (i+1)=l.take i++[l.getD i d]:=by grind[List.take_add_one]
 have:=c.cm (l.take i) (l.getD i d);grind
abbrev TT:dv:=kF (aL ef) (λl=>ef.sl l) λl=>[l.length<=4000000]
def WW:dH X 112 TT:=.oz λl h=>Er l h
abbrev TU:dv:=kF (aL cI) (λl=>cI.sl l) λl=>[l.length<=4000000]
def WX:dH X 56 TU:=.oz λl h=>qU l h
def Am(p:bo)(c:p.2.length<=4000000):Ev X 87 [qo p] [] (qo p) []:=by
 refine Ev.kW tok Tryz.func87 rfl rfl rfl λd=>?_;have b:bR X [(112,TT)]:=.cons WW .nil;refine bX b rfl ?_ ?_
 .simp only[ar,ef.list_fn];exact⟨ef.au _,c⟩
 refine AK.kV () [] rfl rfl rfl rfl rfl rfl rfl rfl ?_ rfl rfl rfl rfl (λj a=>absurd a (by simp));simp[ef.list_fn]
abbrev O2:dv:=kF (BV ef) (λp=>qo p) λp=>[p.2.length<=4000000]
def TV:dH X 87 O2:=.oz λp h=>Am p h
def An(x:cW)(l:x.2.length<=4000000)(d:∀y∈x.2,y.2.length<=4000000):Ev X 88 [F4 x] [] (F4 x) []:=by
 refine Ev.kW tok Tryz.func88 rfl rfl rfl λk=>?_;have a:bR X [(56,TU)]:=.cons WX .nil;refine aO a [(1000002,ab)] rfl aq ?_;refine AK.iv 2 1 107 2 (cL.fn []) rfl rfl ?_;refine bX a rfl aq ?_;refine AK.bS 4 (λi=>i<=x.2.length) (λi:Nat=>[(2,.e (.one (.ptr 1 0))),(3,.e (.one (.ptr 2 0))),(10,cL.sl x.2),(11,dI x.2.length),(12,dI i)])
  (λi=>[.cells 68 [.c (.int .i64 x.1),.c (.sl ae 2 x.2.length (cL.fn x.2))],.cells 68 [.c (.int .i64 0),.c (.sl ab 0 0 λ_=>[])],.cells 68 [.c (.int .i64 x.1),.vec 3 2 i (cL.fn (x.2.take i))],.vec 107 2 i (cL.fn (x.2.take i))]) (λi=>x.2.length-i) 0 rfl ?_ rfl ?_ rfl (by omega) ?_
 .simp
 .simp[cq]
 intro i hi;by_cases h:i<x.2.length
 .have f:x.2.getD i ([],[])∈x.2:=by grind
  refine aO a [(13,ab)] rfl ?_ (AK.aQ (i+1) rfl ?_ ?_ ?_ ?_)
  .have q:=d _ f;have b:x.2.getD (i:Int).toNat cL.b8=x.2.getD i ([],[]):=by grind
   simp only[ar,b,cI.list_fn,bt];exact⟨by omega,aq,aq,show(i+1)*40<=_ by omega,cI.au _,q,by omega,by omega,dc (by omega)⟩
  .simp
  .have b:x.2.getD (i:Int).toNat cL.b8=x.2.getD i ([],[]):=by grind
   have e:=cL.pZ x.2 h ([],[]);simp only[ar.cat,ar,b,cI.list_fn,aB,aC];exact⟨cq.same,cq.same,e,e⟩
  .grind
  .omega
 .obtain rfl:i=x.2.length:=by omega
  refine aO a [(13,ae)] rfl (by simp) (AK.leaveD rfl rfl ?_);refine bX a rfl aq ?_;refine AK.kV () [] rfl rfl rfl rfl rfl rfl rfl rfl ?_ rfl rfl rfl rfl (λj g=>absurd g (by simp));simp[cq]
abbrev O3:dv:=kF (BV cL) (λx=>F4 x) λx=>[x.2.length<=4000000,∀y∈x.2,y.2.length<=4000000]
def TX:dH X 88 O3:=.oz λx h=>An x h.1 h.2
abbrev iN:A:=.c (.sl ab 0 0 λ_=>[])
def o8(s:bw)(o:s.1.length<=4000000)(g:∀p∈s.1,p.2.length<=4000000)(m:s.2.1.length<=4000000)(d:j0 s)(k:s.2.2.length<=4000000):
  Ev X 55 [l4 s] [] (.e (.agg [.bp 0 (.sl s.1.length 2 0 s.1.length),.bp 1 (.sl s.2.1.length 2 0 s.2.1.length),.c (.sl ae 2 s.2.2.length (cH.fn s.2.2))])) [.buf 39 2 s.1.length (cP.fn s.1),.buf 68 2 s.2.1.length (cX.fn s.2.1)]:=by
 refine Ev.kW tok Tryz.func55 rfl rfl rfl λn=>?_;have a:bR X [(87,O2),(88,O3)]:=.cons TV (.cons TX .nil);refine aO a [(1000002,ab)] rfl aq ?_;refine AK.wv 2 0 39 2 (cP.fn []) rfl rfl ?_;refine AK.wv 2 1 68 2 (cX.fn []) rfl rfl ?_;refine bX a rfl aq ?_;refine AK.bS 5 (λi=>i<=s.1.length) (λi:Nat=>[(1,.e (.one (.ptr 0 0))),(2,.e (.one (.ptr 1 0))),(3,.e (.one (.ptr 2 0))),(9,cP.sl s.1),(10,dI s.1.length),(11,dI i)])
  (λi=>[.cells 27 [.c (.sl ae 2 s.1.length (cP.fn s.1)),.c (.sl ae 2 s.2.1.length (cX.fn s.2.1)),.c (.sl ae 2 s.2.2.length (cH.fn s.2.2))],.cells 27 [iN,iN,iN],.cells 27 [.bp 3 (.sl i 2 0 i),.bp 4 (.sl 0 2 0 0),iN],.buf 39 2 i (cP.fn (s.1.take i)),.buf 68 2 0 (cX.fn [])]) (λi=>s.1.length-i) 0 rfl ?_ rfl ?_ rfl (by omega) ?_
 .simp
 .simp[cq]
 intro i hi;by_cases h:i<s.1.length
 .have f:s.1.getD i (0,[])∈s.1:=by grind
  have b:s.1.getD (i:Int).toNat cP.b8=s.1.getD i (0,[]):=by grind
  refine aO a [(12,ab)] rfl ?_ (AK.aQ (i+1) rfl ?_ ?_ ?_ ?_)
  .have q:=g _ f;simp only[ar,b,ef.list_fn,bt];exact⟨by omega,aq,aq,show(i+1)*32<=_ by omega,ef.au _,q,by omega,by omega,dc (by omega)⟩
  .simp
  .have e:=cP.pZ s.1 h (0,[]);simp only[ar.cat,ar,b,ef.list_fn,aB,aC];exact⟨⟨cq.same,cq.same,cq.same⟩,⟨cq.same,cq.same,cq.same⟩,⟨rfl,cq.same⟩,e,cq.same⟩
  .grind
  .omega
 obtain rfl:i=s.1.length:=by omega
 rw[cB];refine aO a [(12,ae)] rfl (by simp) (AK.leaveD rfl rfl ?_);refine bX a rfl aq ?_;refine AK.bS 5 (λi=>i<=s.2.1.length) (λi:Nat=>[(1,.e (.one (.ptr 0 0))),(2,.e (.one (.ptr 1 0))),(3,.e (.one (.ptr 2 0))),(24,cX.sl s.2.1),(25,dI s.2.1.length),(26,dI i)])
  (λi=>[.cells 27 [.c (.sl ae 2 s.1.length (cP.fn s.1)),.c (.sl ae 2 s.2.1.length (cX.fn s.2.1)),.c (.sl ae 2 s.2.2.length (cH.fn s.2.2))],.cells 27 [iN,iN,iN],.cells 27 [.bp 3 (.sl s.1.length 2 0 s.1.length),.bp 4 (.sl i 2 0 i),iN],.buf 39 2 s.1.length (cP.fn s.1),.buf 68 2 i (cX.fn (s.2.1.take i))]) (λi=>s.2.1.length-i) 0 rfl ?_ rfl ?_ rfl (by omega) ?_
 .simp
 .simp[cq]
 intro i hi;by_cases h:i<s.2.1.length
 .have f:s.2.1.getD i (0,[])∈s.2.1:=by grind
  have b:s.2.1.getD (i:Int).toNat cX.b8=s.2.1.getD i (0,[]):=by grind
  refine aO a [(27,ab)] rfl ?_ (AK.aQ (i+1) rfl ?_ ?_ ?_ ?_)
  .have q:=d _ f;simp only[ar,b,cL.list_fn,bt];exact⟨by omega,aq,aq,show(i+1)*32<=_ by omega,cL.au _,q.1,q.2,by omega,by omega,dc (by omega)⟩
  .simp
  .have e:=cX.pZ s.2.1 h (0,[]);simp only[ar.cat,ar,b,cL.list_fn,aB,aC];exact⟨⟨cq.same,cq.same,cq.same⟩,⟨cq.same,cq.same,cq.same⟩,⟨rfl,cq.same⟩,cq.same,e⟩
  .grind
  .omega
 obtain rfl:i=s.2.1.length:=by omega
 rw[cB];refine aO a [(27,ae)] rfl (by simp) (AK.leaveD rfl rfl ?_);refine bX a rfl aq ?_;refine AK.cQ (Ep s.2.2 k) [] rfl ?_;refine bX a rfl aq ?_;refine AK.kV () [3,4] rfl rfl rfl rfl rfl rfl rfl rfl ?_ rfl rfl rfl rfl (λj l=>absurd l (by simp))
 .simp
def n6(q:α->Bool)(l:List α):Int:=match l.findIdx? q with|some i=>i|none=>-1
def u9{q:α->Bool}{t:List α}{d:α}(hi:i<t.length)(h:q (t.getD i d)=ab)(a:∀j,j<i->q (t.getD j d)=ae):n6 q t=i:=by
 have:t.findIdx? q=aa i:=by grind[List.findIdx?_eq_some_iff_getElem]
 rw[n6,this]
def p6{q:α->Bool}{t:List α}{d:α}(a:∀j,j<t.length->q (t.getD j d)=ae):n6 q t=-1:=by
 have:t.findIdx? q=af:=by grind[List.getElem_of_mem]
 rw[n6,this]
def Et{lo hi:Nat}{z:List C}(h:¬(lo<=j/\j<hi)):nQ lo hi z es j=es j:=aW h
theorem bx{l:List α}(h:i<l.length)(d:α):l.take (i+1)=l.take i++[l.getD i d]:=by grind[List.take_add_one]
def _root_.Go.AM.iT.Eu(c:iT α)(l:List α)(i:Nat)(x:α)(n:Nat)(a:n<=l.length):cq n (mZ i (c.enc x) (c.fn l)) (c.fn (l.set i x)):=by intro q b;simp only[mZ,iT.fn,xS];grind
abbrev WY:=Int×Int×Int×Bs
def RY(s:bw)(l:WY)(n:Nat)(a:l.2.1=n)(h:n<=s.2.2.length):ar (jz s.2.2.length (aa l.2.1) af):=by show 0<=l.2.1/\l.2.1<=(s.2.2.length:Int);omega
def QT(n lo hi:Int):Ev X 63 [dI n,dI lo,dI hi] [] (dB (decide (lo<=n/\n<=hi))) []:=by
 refine Ev.bQ Tryz.func63 rfl λc=>?_;by_cases b:lo<=n
 .by_cases a:n<=hi
  .refine aY [(10,ab),(14,ab)] rfl (by simp;omega) (AK.bq rfl ?_);simp[b,a]
  .refine aY [(10,ab),(14,ae)] rfl (by simp;omega) (AK.bq rfl ?_);simp;omega
 .refine aY [(10,ae),(14,ae)] rfl (by simp;omega) (AK.bq rfl ?_);simp;omega
abbrev Ao:dv:=Dj aI aI aI (λn lo hi=>dB (decide (lo<=n/\n<=hi))) λ_ _ _=>[]
def B8:dH X 63 Ao:=.Ih λn lo hi _=>QT n lo hi
def Hl(n:Nat)(f:n<=4000000):Ev X 195 [dI n] [] (dI (cJ n)) []:=by
 refine Ev.bQ Tryz.func195 rfl λe=>?_;by_cases d:n<1
 .refine aY [(6,ab),(9,ab)] rfl (by simp;omega) (AK.bq rfl ?_);have:cJ n=0:=by simp[cJ,d]
  simp[this]
 by_cases c:8<n
 .refine aY [(6,ae),(9,ab)] rfl (by simp;omega) (AK.bq rfl ?_);have:cJ n=0:=by simp[cJ,c]
  simp[this]
 by_cases a:n<=2
 .refine aY [(6,ae),(9,ae),(10,ab)] rfl (by simp;omega) (AK.bq rfl ?_);have:cJ n=2:=by simp only[cJ,aW (show¬(n<1∨8<n) by omega),bc a]
  simp[this]
 by_cases b:n<=4
 .refine aY [(6,ae),(9,ae),(10,ae),(13,ab)] rfl (by simp;omega) (AK.bq rfl ?_);have:cJ n=4:=by simp only[cJ,aW (show¬(n<1∨8<n) by omega),aW a,bc b]
  simp[this]
 .refine aY [(6,ae),(9,ae),(10,ae),(13,ae)] rfl (by simp;omega) (AK.bq rfl ?_);have:cJ n=8:=by simp only[cJ,aW (show¬(n<1∨8<n) by omega),aW a,aW b]
  simp[this]
def Nw(l:List Bs)(p:Bs)(e:l.length<=4000000):Ev X 145 [cS.sl l,dS p] [] (dB (l.contains p)) []:=by
 refine Ev.bQ Tryz.func145 rfl λc=>?_;refine bA rfl aq ?_;refine AK.bS 0 (λi=>i<=l.length/\∀j,j<i->l.getD j []≠p) (λi:Nat=>[(0,cS.sl l),(1,dS p),(5,dI i)]) (λ_=>[]) (λi=>l.length-i) 0 rfl ?_ rfl ?_ rfl ⟨by omega,by omega⟩ ?_
 .simp
 .simp
 rintro i ⟨hi,a⟩;by_cases h:i<l.length
 .have b:l.getD (i:Int).toNat cS.b8=l.getD i []:=by grind
  by_cases f:l.getD i []=p
  .refine aY [(9,ab),(17,ab)] rfl ?_ (AK.eP (cg.zero rfl ?_))
   .simp only[ar,b];grind
   .have:p∈l:=by grind
    simp[this]
  .refine aY [(9,ab),(17,ae)] rfl ?_ (AK.aQ (i+1) rfl ?_ ?_ ?_ ?_)
   .simp only[ar,b,bt];grind
   .simp
   .simp
   .grind
   .omega
 .refine aY [(9,ae)] rfl (by simp;omega) (AK.leaveD rfl rfl ?_);refine bA rfl aq (AK.bq rfl ?_);have:¬p∈l:=λd=>by grind[List.getElem_of_mem]
  simp[this]
def Kd(p:Bs)(b:bH p=ab):Ev X 153 [dS p] [] (dI (codeOf p)) []:=by
 refine Ev.bQ Tryz.func153 rfl λf=>?_;have a:=b;simp only[bH,bJ,bh]at a;refine bA rfl aq ?_;refine AK.bS 0 (λi=>i<=p.length) (λi:Nat=>[(0,dS p),(3,dI (codeOf (p.take i))),(4,dI i)]) (λ_=>[]) (λi=>p.length-i) 0 rfl (by simp[codeOf]) rfl (by simp) rfl (by omega) ?_;intro i hi;by_cases h:i<p.length
 .have j:=jE b hi;have k:=jE b (i:=i+1) (by omega);have e:=tX h;have g:=kG a.2 (p.getD i 0) (wC h);have c:97<=cz p i/\cz p i<=122:=by unfold cz;omega
  refine aY [(8,ab)] rfl ?_ (AK.aQ (i+1) rfl ?_ ?_ ?_ ?_)
  .simp only[ar,cC,bt];grind
  .have d:(cz p i-97) % 256=cz p i-97:=Int.emod_eq_of_lt (by omega) (by omega);rw[d]at e;simp[-ah,cC,e]
  .simp
  .grind
  grind
 .obtain rfl:i=p.length:=by omega
  refine aY [(8,ae)] rfl (by simp) (AK.leaveD rfl rfl ?_);exact bA rfl aq (AK.bq rfl)
def QU:dH X 153 (kF aS (λp=>dI (codeOf p)) λp=>[bH p=ab]):=.oz λp h=>Kd p h
def Ke(k:Int)(p:Bs)(c:cD k=ab)(g:bH p=ab):Ev X 114 [dI k,dS p] [] (dI (iM k p)) []:=by
 refine Ev.bQ Tryz.func114 rfl λh=>?_;have b:bR X [(153,kF aS (λp=>dI (codeOf p)) λp=>[bH p=ab])]:=.cons QU .nil;have a:=c;simp only[cD,bJ,bh]at a;have f:=yt g;refine bX b rfl ?_ (AK.bq rfl ?_)
 .have d:0<=codeOf p*(2*k+1):=Int.mul_nonneg f.1 (by omega);have e:codeOf p*(2*k+1)<=282429536481*199:=Int.mul_le_mul (by omega) (by omega) (by omega) (by omega);generalize codeOf p*(2*k+1)=m at d e;simp only[ar,bt];grind
 .show (_:Int)=_;rfl
def Ap:dH X 114 (nt aI aS (λk p=>dI (iM k p)) λk p=>[cD k=ab,bH p=ab]):=.qn λk p h=>Ke k p h.1 h.2
def Kf(l:List dy)(n:Int)(d:l.length<=4000000):Ev X 144 [oA.sl l,dI n] [] (dI (tY l n)) []:=by
 refine Ev.bQ Tryz.func144 rfl λc=>?_;refine bA rfl aq ?_;refine AK.bS 0 (λi=>i<=l.length/\∀j,j<i->(l.getD j (0,0)).1≠n) (λi:Nat=>[(0,oA.sl l),(1,dI n),(5,dI i)]) (λ_=>[]) (λi=>l.length-i) 0 rfl ?_ rfl ?_ rfl ⟨by omega,by omega⟩ ?_
 .simp
 .simp
 rintro i ⟨hi,b⟩;by_cases h:i<l.length
 .have a:l.getD (i:Int).toNat oA.b8=l.getD i (0,0):=by grind
  by_cases e:(l.getD i (0,0)).1=n
  .refine aY [(9,ab),(18,ab)] rfl ?_ (AK.eP (cg.zero rfl ?_))
   .simp only[ar,a];grind
   .have:tY l n=(l.getD i (0,0)).2:=by
     have:l.find? (λs=>s.1==n)=aa (l.getD i (0,0)):=by grind[List.find?_eq_some_iff_getElem]
     rw[tY,this]
    simp only[ar,a];grind
  .refine aY [(9,ab),(18,ae)] rfl ?_ (AK.aQ (i+1) rfl ?_ ?_ ?_ ?_)
   .simp only[ar,a,bt];grind
   .simp
   .simp
   .grind
   .omega
 .refine aY [(9,ae)] rfl (by simp;omega) (AK.leaveD rfl rfl ?_);refine bA rfl aq (AK.bq rfl ?_);have:tY l n=0:=by
   have:l.find? (λs=>s.1==n)=af:=by grind[List.getElem_of_mem]
   rw[tY,this]
  simp[this]
theorem wK(b:1<=n)(a:n<=8):n<=cJ n/\cJ n<=8:=by unfold cJ;grind
abbrev F9:dv:=kF aI (λn=>dI (cJ n.toNat)) λn=>[0<=n/\n<=4000000]
def Nx:dH X 195 F9:=.oz λn h=>by
 obtain⟨m,rfl⟩:∃m:Nat,n=m:=⟨n.toNat,by have:=h.1;omega⟩
 exact Hl m (by have:=h.2;omega)
def Ny(p:Bs)(c:bH p=ab):Ev X 149 [dS p] [] (dS (iA p)) []:=by
 refine Ev.bQ Tryz.func149 rfl λd=>?_;have b:bR X [(195,F9)]:=.cons Nx .nil;have a:=c;simp only[bH,bJ,bh]at a;have f:=wK a.1.1 a.1.2;refine bX b rfl ?_ ?_
 .simp only[ar];omega
 refine AK.bS 0 (λj=>p.length+j<=cJ p.length) (λj:Nat=>[(0,dS (p++List.replicate j 46)),(3,dI (cJ p.length))]) (λ_=>[]) (λj=>cJ p.length-j) 0 rfl (by simp) rfl (by simp) rfl (by omega) ?_;intro j g;by_cases h:p.length+j<cJ p.length
 .refine aO b [(10,ab)] rfl ?_ (AK.aQ (j+1) rfl ?_ ?_ ?_ ?_)
  .simp;omega
  .simp[List.replicate_succ']
  .simp
  .grind
  grind
 .have e:cJ p.length-p.length=j:=by omega
  refine aO b [(10,ae)] rfl (by simp;omega) (AK.leaveD rfl rfl ?_);refine bX b rfl aq (AK.bq rfl ?_);simp[iA,c,e]
def Kg(s:dy):Ev X 146 [.e (.agg [.c (.int .i64 s.1),.c (.int .i64 s.2)])] [] (dB (kQ s)) []:=by
 refine Ev.bQ Tryz.func146 rfl λf=>?_;have b:bR X [(63,Ao)]:=.cons B8 .nil;by_cases a:0<=s.1/\s.1<=999999999988
 .by_cases d:1<=s.2/\s.2<=99
  .refine aO b [(6,ab),(10,ab)] rfl (by simp[a,d]) (AK.bq rfl ?_);have:kQ s=ab:=by simp[kQ,a,d];omega
   simp[this]
  .refine aO b [(6,ab),(10,ae)] rfl (by simp[a,d]<;>omega) (AK.bq rfl ?_);have:kQ s=ae:=by simp[kQ,a];omega
   simp[this]
 .refine aO b [(6,ae),(10,ae)] rfl (by simp;omega) (AK.bq rfl ?_);have:kQ s=ae:=by simp[kQ];omega
  simp[this]
abbrev Kh:dv:=kF U4 (λs=>dB (kQ s)) λ_=>[]
def QV:dH X 146 Kh:=.oz λs _=>Kg s
def w9{q:α->Bool}{l:List α}(h:l.any q=ab):0<=n6 q l:=by unfold n6;grind
theorem xa{q:α->Bool}{l:List α}(h:l.any q=ae):n6 q l=-1:=by unfold n6;grind
def KD(l:List (Int×Int))(b:Nat)(q:Int×Int->Bool)(m:∀x,x∈l->Ev X b [.e (.agg [.c (.int .i64 x.1),.c (.int .i64 x.2)])] [] (dB (q x)) []):
  Ev X 100 [cH.sl l,.e (.one (.c (.fn (.func b) [] [])))] [] (dI (n6 q l)) []:=by
 refine Ev.bQ Tryz.func100 rfl λf=>?_;have d:=f.sl 0 rfl;refine bA rfl aq ?_;refine AK.jf (λi=>i<=l.length/\∀j,j<i->q (l.getD j (0,0))=ae) (λi:Nat=>[(0,cH.sl l),(1,.e (.one (.c (.fn (.func b) [] [])))),(7,dI l.length),(8,dI i)]) (λ_=>[]) (λi=>l.length-i) 0 rfl ?_ rfl aq ⟨by omega,by omega⟩ ?_
 .simp
 rintro i ⟨hi,a⟩;by_cases h:i<l.length
 .have g:l.getD i (0,0)∈l:=by grind
  have k:l.getD (i:Int).toNat cH.b8=l.getD i (0,0):=by grind
  refine aY [(9,ab)] rfl ?_ ?_
  .simp only[ar];grind
  rw[k];refine AK.cQ (m _ g) [] rfl ?_;cases n:q (l.getD i (0,0))with
  |true =>
   refine aY [(16,ab)] rfl ?_ (AK.gO (cg.zero rfl ?_))
   .simp
   .simp[u9 h n a]
  |false =>
   refine aY [(16,ae)] rfl ?_ (AK.fH (i+1) rfl ?_ rfl aq ?_ ?_)
   .simp[bt];omega
   .simp
   .grind
   .omega
 .refine aY [(9,ae)] rfl (by simp;omega) (AK.leave rfl rfl ?_);refine bA rfl aq (AK.bq rfl ?_);simp[p6 (λj o=>a j (by omega))]
def KE(l:List (Int×Int))(a:Nat)(q:Int×Int->Bool)(b:∀x,x∈l->Ev X a [.e (.agg [.c (.int .i64 x.1),.c (.int .i64 x.2)])] [] (dB (q x)) []):
  Ev X 73 [cH.sl l,.e (.one (.c (.fn (.func a) [] [])))] [] (dB (l.any q)) []:=by
 refine Ev.bQ Tryz.func73 rfl λd=>?_;refine bA rfl aq ?_;refine AK.cQ (KD l a q b) [] rfl ?_;cases h:l.any q with
 |true =>
  exact aY [(8,ab)] rfl (dc (w9 h)) (AK.bq rfl)
 |false =>
  exact aY [(8,ae)] rfl (gH (by grind[xa])) (AK.bq rfl)
def KF(l:List (bo))(b:Nat)(cs:List C)(q:bo->Bool)(m:∀x,x∈l->Ev X b [qo x,.e (.one (.c (.rp cs)))] [] (dB (q x)) []):
  Ev X 57 [cP.sl l,.e (.one (.c (.fn (.func b) [] [.rp cs])))] [] (dI (n6 q l)) []:=by
 refine Ev.bQ Tryz.func57 rfl λf=>?_;have d:=f.sl 0 rfl;refine bA rfl aq ?_;refine AK.jf (λi=>i<=l.length/\∀j,j<i->q (l.getD j (0,[]))=ae) (λi:Nat=>[(0,cP.sl l),(1,.e (.one (.c (.fn (.func b) [] [.rp cs])))),(7,dI l.length),(8,dI i)]) (λ_=>[]) (λi=>l.length-i) 0 rfl ?_ rfl aq ⟨by omega,by omega⟩ ?_
 .simp
 rintro i ⟨hi,a⟩;by_cases h:i<l.length
 .have g:l.getD i (0,[])∈l:=by grind
  have k:l.getD (i:Int).toNat cP.b8=l.getD i (0,[]):=by grind
  refine aY [(9,ab)] rfl ?_ ?_
  .simp only[ar];grind
  rw[k];refine AK.cQ (m _ g) [] rfl ?_;cases n:q (l.getD i (0,[]))with
  |true =>
   refine aY [(16,ab)] rfl ?_ (AK.gO (cg.zero rfl ?_))
   .simp
   .simp[u9 h n a]
  |false =>
   refine aY [(16,ae)] rfl ?_ (AK.fH (i+1) rfl ?_ rfl aq ?_ ?_)
   .simp[bt];omega
   .simp
   .grind
   .omega
 .refine aY [(9,ae)] rfl (by simp;omega) (AK.leave rfl rfl ?_);refine bA rfl aq (AK.bq rfl ?_);simp[p6 (λj o=>a j (by omega))]
def KG(l:List (bo))(a:Nat)(cs:List C)(q:bo->Bool)(b:∀x,x∈l->Ev X a [qo x,.e (.one (.c (.rp cs)))] [] (dB (q x)) []):
  Ev X 45 [cP.sl l,.e (.one (.c (.fn (.func a) [] [.rp cs])))] [] (dB (l.any q)) []:=by
 refine Ev.bQ Tryz.func45 rfl λd=>?_;refine bA rfl aq ?_;refine AK.cQ (KF l a cs q b) [] rfl ?_;cases h:l.any q with
 |true =>
  exact aY [(8,ab)] rfl (dc (w9 h)) (AK.bq rfl)
 |false =>
  exact aY [(8,ae)] rfl (gH (by grind[xa])) (AK.bq rfl)
def KH(l:List (Int))(b:Nat)(cs:List C)(H:aj->(Nat->Option Obj)->Prop)(q:Int->Bool)(m:∀x,x∈l->Ev X b [dI x,.e (.one (.c (.rp cs)))] [.dg H] (dB (q x)) [.dg H]):
  Ev X 78 [cI.sl l,.e (.one (.c (.fn (.func b) [] [.rp cs])))] [.dg H] (dI (n6 q l)) [.dg H]:=by
 refine Ev.bQ Tryz.func78 rfl λf=>?_;have d:=f.sl 0 rfl;refine bA rfl aq ?_;refine AK.bS 1 (λi=>i<=l.length/\∀j,j<i->q (l.getD j 0)=ae) (λi:Nat=>[(0,cI.sl l),(1,.e (.one (.c (.fn (.func b) [] [.rp cs])))),(7,dI l.length),(8,dI i)]) (λ_=>[.dg H]) (λi=>l.length-i) 0 rfl ?_ rfl ?_ rfl ⟨by omega,by omega⟩ ?_
 .simp
 .simp
 rintro i ⟨hi,a⟩;by_cases h:i<l.length
 .have g:l.getD i 0∈l:=by grind
  have k:l.getD (i:Int).toNat cI.b8=l.getD i 0:=by grind
  refine aY [(9,ab)] rfl ?_ ?_
  .simp only[ar];grind
  rw[k];refine AK.cQ (m _ g) [0] rfl ?_;cases n:q (l.getD i 0)with
  |true =>
   refine aY [(16,ab)] rfl ?_ (AK.eP (cg.mk [0] rfl ?_ rfl rfl rfl nY))
   .simp
   .simp[u9 h n a]
  |false =>
   refine aY [(16,ae)] rfl ?_ (AK.aQ (i+1) rfl ?_ ?_ ?_ ?_)
   .simp[bt];omega
   .simp
   .simp
   .grind
   .omega
 .refine aY [(9,ae)] rfl (by simp;omega) (AK.leaveD rfl rfl ?_);refine bA rfl aq (AK.dY [0] rfl ?_ rfl rfl rfl nY);simp[p6 (λj o=>a j (by omega))]
def KI(l:List (Int))(a:Nat)(cs:List C)(H:aj->(Nat->Option Obj)->Prop)(q:Int->Bool)(b:∀x,x∈l->Ev X a [dI x,.e (.one (.c (.rp cs)))] [.dg H] (dB (q x)) [.dg H]):
  Ev X 42 [cI.sl l,.e (.one (.c (.fn (.func a) [] [.rp cs])))] [.dg H] (dB (l.any q)) [.dg H]:=by
 refine Ev.bQ Tryz.func42 rfl λd=>?_;refine bA rfl aq ?_;refine AK.cQ (KH l a cs H q b) [0] rfl ?_;cases h:l.any q with
 |true =>
  refine aY [(8,ab)] rfl (dc (w9 h)) (AK.dY [0] rfl ?_ rfl rfl rfl nY);simp
 |false =>
  refine aY [(8,ae)] rfl (gH (by grind[xa])) (AK.dY [0] rfl ?_ rfl rfl rfl nY);simp
abbrev S3:Type:=Nat×AY×Nat×List aj
abbrev u3(x:S3):aj:=AZ x.2.1 x.2.2.1
end
abbrev AF(l:List bu):Prop:=l.Pairwise λa b=>bd a.1 b.1=ab
def xj{t:List bu}(h:cE t=ab):AF t:=by simp only[cE,bJ]at h;have a:=cK.1 h.1;rw[AF,ll];intro i j hi hj W8;rw[fileAt hi,fileAt hj];refine T8 (t:=t) (i:=j) (λk c b=>?_) i W8;have:=a k (by omega);simp only[gB,bJ,mD,eG]at this;grind
theorem mo{t:List bu}:cE t=ab↔(∀f∈t,dF f.1=ab/\dN f.2=ab)/\AF t/\t.Pairwise (λa b=>clash a.1 b.1=ae)/\t.length<=6:=by
 constructor
 .intro h;have d:=xj h;simp only[cE,bJ,bh]at h;have c:=cK.1 h.1;refine⟨λf e=>?_,d,?_,h.2⟩
  .obtain⟨i,hi,rfl⟩:=dL e;have:=c i hi;simp only[gB,bJ]at this;grind[fileAt]
  .rw[ll];intro i j hi hj W8;have:=c j hj;simp only[gB,bJ]at this;grind[fileAt]
 .rintro⟨l,n,m,k⟩;simp only[cE,bJ,bh];refine⟨cK.2 λi hi=>?_,k⟩;have g:=l _ (nz hi);rw[fileAt hi]at g;simp only[gB,bJ,mD,eG];grind[List.pairwise_iff_getElem,fileAt]
def xk{t:List bu}(q:bu->Bool)(h:cE t=ab):cE (t.filter q)=ab:=by grind[mo]
def Ku{t:List bu}(p:Bs)(h:cE t=ab):cE (lQ t p)=ab:=xk _ h
def Ex{t:List bu}{p x:Bs}(h:(dZ t p x).2=ab):cE (dZ t p x).1=ab:=by unfold dZ at h⊢;grind
end R1
def dW.le{X:Cx P}{f:aM}{args:List D}{res':ι->D}(h:dW X f args σ res σ1){ps:ι->List Prop}(a:∀i,Dg (res i) (res' i)=aa (ps i))(b:∀i,ar (ps i)):dW X f args σ res' σ1 :=
 ⟨h.1,λs vs hr hh S cs hS=>h.2 s vs hr hh S cs λi fr v s' hl lY jL st=>hS i fr v s' hl (qI (a i) (b i) lY) jL st⟩
def dW.one{X:Cx P}{f:aM}{args:List D}{res:D}{σ1:List bm}(h:dW (ι:=ι) X f args σ (λ_=>res) (λ_=>σ1)):Ev X f args σ res σ1 :=
 ⟨h.1,λs vs hr hh S cs hS=>h.2 s vs hr hh S cs λ_ fr v s' hl lY jL st=>hS fr v s' hl lY jL st⟩
namespace R1
variable {X:Cx ag}
structure gF(s:bw):Prop where
 p:s.1.length<=4000000
 p2:∀p∈s.1,p.2.length<=4000000
 sn:s.2.1.length<=4000000
 s2:j0 s
 h:s.2.2.length<=4000000
end R1
namespace R1
section
open Go.Sort (pdq bitsLen ltInt Below)
variable {X:Cx ag}
def mn(l:List Int):List Int:=l.mergeSort λx y=>decide (x<=y)
def gL(l:List Int):(mn l).length=l.length:=List.length_mergeSort _
def Lu(l:List Int):pdq ltInt l.toArray 0 l.length (bitsLen l.length) ab ab=(mn l).toArray:=by have h:=Go.Sort.sortInt l;unfold Go.Sort.sort at h;rw[List.size_toArray]at h;exact Array.ext' (by rw[h];rfl)
theorem Uv(l:List Int):eI l.toArray=cI.fn l:=by funext j;simp only[eI,iT.fn,xS,cI,ah];simp
abbrev HI(n:Nat)(l:List Int):bm:=.buf 3 1 n (cI.fn l)
def CJ(l:List Int)(a:l.length<=4000000):Ev X 70 [ko l.length] [HI l.length l] (.fK []) [HI l.length (mn l)]:=by
 refine Ev.bQ Tryz.func70 rfl λc=>?_;refine c6 rfl (by simp only[ar,bt];and_intros<;>omega) ?_;refine AK.cQ (Lv l.length a) [] rfl ?_;refine c6 rfl aq ?_;have b:=j8 (x:=l.length) (k:=22) (by grind);have key:Ev X 95 [ko l.length,dI 0,dI l.length,dI (bitsLen l.length)] [HI l.length l] (.fK []) [HI l.length (mn l)]:=by have:=RK (X:=X) l.length a l.length l.toArray 0 l.length (bitsLen l.length) (by omega) (by simp) (by omega) (ba _) (by omega) (.inl rfl) (x:=0) rfl rfl rfl (Lu l).symm;grind[Uv]
 refine AK.cQ key [0] rfl ?_;refine c6 rfl aq ?_;exact cg.sW [0] rfl aq rfl rfl rfl iq
def jM(l:List Int):Nat->List Int
 |0=>[]
 |j+1=>if j≠0/\l.getD j 0=l.getD (j-1) 0 then jM l j else jM l j++[l.getD j 0]
def dO(l:List Int):List Int:=jM l l.length
def ss(l:List Int):∀j,(jM l j).length<=j
 |0=>ba _
 |j+1=>by have:=ss l j;simp only[jM];grind
def ni{l:List Int}:∀{k:Nat},k<=l.length->(∀i,1<=i->i<k->l.getD i 0≠l.getD (i-1) 0)->jM l k=l.take k
 |0,_,_=>by simp[jM]
 |k+1,c,h=>by rw[jM,aW,ni (by omega) λi a b=>h i a (by omega),bx (by omega) 0];grind
structure CoP(l:List Int)(k0:Nat)(k2:Nat)(ys:List Int):Prop where
 h1:1<=k2
 hj:k0+k2<=l.length
 len:ys.length=l.length
 lt:(jM l (k0+k2)).length<k0+k2
 done:ys.take (jM l (k0+k2)).length=jM l (k0+k2)
 rest:∀i,k0+k2<=i+1->ys.getD i 0=l.getD i 0
abbrev Lw(a:List Int):Type:={es:Nat->List C // ∀i,i<a.length->es i=cI.fn a i}
def xi(l:List Int)(J:l.length<=4000000):dW (ι:=Lw (dO l)) X 71 [ko l.length] [HI l.length l] (λ_=>.e (.one (.bp 0 (.sl l.length 1 0 (dO l).length)))) (λes=>[.buf 3 1 l.length es.1]):=by
 refine dW.qy Tryz.func71 rfl rfl rfl λL=>?_;by_cases z:l.length<2
 .have h:dO l=l:=by unfold dO;rw[ni (ba _) λi _ _=>by omega,cB]
  refine bE [(8,ab)] rfl (by simp only[ar,bh];omega) (AK.l5 ⟨cI.fn l,λi _=>by rw[h]⟩ (AK.dY [0] rfl ?_ rfl rfl rfl iq));simp[h]
 refine bE [(8,ae)] rfl (by simp only[ar,bM];omega) ?_;refine AK.kE (S2:=Unit) 0 rfl rfl (λ_=>dO l=l) (λ_=>[(0,ko l.length)]) (λ_=>[HI l.length l]) 1 (λk:Nat=>1<=k/\k<=l.length/\∀i,1<=i->i<k->l.getD i 0≠l.getD (i-1) 0) (λk=>[(0,ko l.length),(3,dI k)]) (λ_=>[HI l.length l]) (λk=>l.length-k) 1 rfl ?_ rfl ?_ rfl ⟨ba _,by omega,λi K z=>by omega⟩ ?_ ?_
 .simp
 .simp
 .rintro out k ⟨A,I,d⟩;by_cases y:k<l.length
  .have w:((k:Int)-1).toNat=k-1:=by omega
   have u:∀j,l.getD j cI.b8=l.getD j 0:=λ_=>rfl;by_cases g:l.getD k 0=l.getD (k-1) 0
   .refine bE [(13,ab),(25,ab)] rfl ?_ ?_
    .simp only[ar,bz,bD,w,u,g,bt,bh,jS,aC,aB];and_intros<;>omega
    have G:=ni (l:=l) (by omega) d;have C:jM l (k+1)=l.take k:=by rw[jM,bc ⟨by omega,g⟩,G]
    refine AK.kE (S2:=List Int) 2 rfl rfl (λc=>c.length=l.length/\c.take (dO l).length=dO l) (λ_=>[(0,ko l.length),(3,dI (dO l).length)]) (λc=>[HI l.length c]) 1 (λs:Nat×List Int=>CoP l k s.1 s.2) (λs=>[(0,ko l.length),(3,dI (jM l (k+s.1)).length),(4,.e (.one (.bp 0 (.sl l.length 1 k (l.length-k))))),(5,dI s.1)]) (λs=>[HI l.length s.2]) (λs=>l.length-s.1) (1,l) rfl ?_ rfl ?_ rfl ?_ ?_ ?_
    .simp only[ar.cat,ar,C,List.length_take,cr,bz,bD,aC,aB];exact⟨by omega,rfl,rfl⟩
    .simp
    .exact⟨ba _,by omega,rfl,by grind,by grind,λ_ _=>rfl⟩
    .rintro f ⟨b,c⟩ ⟨c1,c2,c3,c4,n,p⟩;simp only at c1 c2 c3 c4 n p;by_cases H:k+b<l.length
     .have t:((b:Int)-1).toNat=b-1:=by omega
      have q:∀j,c.getD j cI.b8=c.getD j 0:=λ_=>rfl;have r:c.getD (k+b) 0=l.getD (k+b) 0:=p _ (by omega);have x:c.getD (k+(b-1)) 0=l.getD (k+(b-1)) 0:=p _ (by omega);by_cases m:l.getD (k+b) 0=l.getD (k+(b-1)) 0
      .have o:jM l (k+(b+1))=jM l (k+b):=by rw[show k+(b+1)=k+b+1 by omega,jM,bc ⟨by omega,by rw[m,show k+b-1=k+(b-1) by omega]⟩]
       refine bE [(32,ab),(44,ae)] rfl ?_ (AK.aQ (b+1,c) rfl ?_ ?_ ?_ ?_)
       .simp only[ar,bz,bD,t,q,r,x,m,bt,bh,ny,er,jS,aC,aB];and_intros<;>first|trivial|omega
       .simp only[ar.cat,ar,o,aC,aB];omega
       .simp
       .exact⟨by grind,by grind,c3,by grind,by grind,λi hi=>p i (by grind)⟩
       .simp only;omega
      .have o:jM l (k+(b+1))=jM l (k+b)++[l.getD (k+b) 0]:=by rw[show k+(b+1)=k+b+1 by omega,jM,aW];rintro⟨_,g⟩;exact m (by rw[g,show k+b-1=k+(b-1) by omega])
       refine bE [(32,ab),(44,ab)] rfl ?_ (AK.aQ (b+1,c.set (jM l (k+b)).length (l.getD (k+b) 0)) rfl ?_ ?_ ?_ ?_)
       .simp only[ar,bz,bD,t,q,r,x,bt,bh,hI,dG,pF,cT,aC,aB];and_intros<;>first|exact m|omega
       .simp only[ar.cat,ar,o,bT,en,hO,aC,aB];and_intros<;>omega
       .have e:=cI.Eu c (jM l (k+b)).length (l.getD (k+b) 0) l.length (by omega);simp only[ar.cat,ar,bz,bD,q,r,aB,aC];exact e
       .refine⟨by grind,by grind,by grind,by grind,?_,λi hi=>?_⟩
        .simp only;rw[o,bT,show ∀a:Int,[a].length=1 fromλ_=>rfl,lq,List.take_set,List.set_eq_of_length_le (by grind),n,gw (by omega)];rfl
        .simp only at hi⊢;rw[ah,kM (by omega),<-ah];grind
       .simp only;omega
     .have E:k+b=l.length:=by omega
      have v:jM l (k+b)=dO l:=by rw[E];rfl
      refine bE [(32,ae)] rfl ?_ (AK.leaveD rfl rfl ?_)
      .simp only[ar,bM];omega
      rw[v]at n;exact f c ⟨c3,n⟩ rfl (by simp[v]) rfl (by simp)
    rintro c ⟨F,B⟩;have D:(dO l).length<=l.length:=ss l _;refine c6 rfl ?_ ?_
    .simp only[ar];grind
    refine AK.law (bF.Dz tok rfl rfl rfl rfl rfl rfl ?_) rfl rfl ?_
    .simp only[cr,bD];omega
    refine bA rfl ?_ (AK.eP ⟨⟨nQ (0+cr 0 (aa ((dO l).length:Int))) (0+cr 0 (aa ((dO l).length:Int))+(cr l.length af-cr 0 (aa ((dO l).length:Int)))) i3.zero (cI.fn c),λi hi=>?_⟩,cg.mk [0] rfl ?_ rfl rfl rfl iq⟩)
    .simp only[ar];grind
    .have e:c[i]?=(dO l)[i]?:=by grind
     refine(Et (by simp only[cr,bD];omega)).trans ?_;simp only[iT.fn,xS,ah,e]
    .simp[cr];rfl
   .refine bE [(13,ab),(25,ae)] rfl ?_ (AK.aQ (k+1) rfl ?_ ?_ ?_ ?_)
    .simp only[ar,bz,bD,w,u,bt,bh,dG,cT,aC,aB];and_intros<;>first|exact g|omega
    .simp
    .simp
    .grind
    .omega
  .obtain rfl:k=l.length:=by omega
   refine bE [(13,ae)] rfl (by simp) (AK.leaveD rfl rfl ?_);exact out () (by unfold dO;rw[ni (ba _) d,cB]) rfl (by simp) rfl (by simp)
 rintro⟨⟩ h;refine c6 rfl aq (AK.l5 ⟨cI.fn l,λi _=>by rw[h]⟩ (AK.dY [0] rfl ?_ rfl rfl rfl iq));simp[h]
end
section
variable {X:Cx ag}
def cd(l:List gK):List Int:=l.flatMap (·.2)
def gY(x:cW):List Int:=dO (mn (cd x.2))
def sk{l:List gK}(h:i<l.length):cd (l.take (i+1))=cd (l.take i)++(l.getD i ([],[])).2:=by rw[bx h ([],[])];simp[cd]
def _root_.Go.AM.iT.KY(c:iT α)(a b:List α)(n:Nat)(d:n=(a++b).length):cq n (cR a.length (c.fn a) (c.fn b)) (c.fn (a++b)):=by intro i hi;simp only[cR,iT.fn,xS,ah];grind
def x0(x:cW)(o:x.2.length<=4000000)(g:(cd x.2).length<=4000000)(l:∀i,i<=x.2.length->(cd (x.2.take i)).length<=4000000):
  dW (ι:=Lw (gY x)) X 79 [F4 x] [] (λ_=>.e (.one (.bp 0 (.sl (cd x.2).length 1 0 (gY x).length)))) (λes=>[.buf 3 1 (cd x.2).length es.1]):=by
 refine dW.qy Tryz.func79 rfl rfl rfl λn=>?_;refine bE [(1000002,ab)] rfl aq ?_;refine AK.Qu 3 3 1 (cI.fn []) rfl ?_;refine c6 rfl aq ?_;refine AK.bS 2 (λi=>i<=x.2.length) (λi:Nat=>[(3,.e (.one (.bp 1 (.sl (cd (x.2.take i)).length 1 0 (cd (x.2.take i)).length)))),(7,cL.sl x.2),(8,dI x.2.length),(9,dI i)])
  (λi=>[.cells 68 [.c (.int .i64 x.1),.c (.sl ae 2 x.2.length (cL.fn x.2))],HI (cd (x.2.take i)).length (cd (x.2.take i))]) (λi=>x.2.length-i) 0 rfl ?_ rfl ?_ rfl (by omega) ?_
 .simp[cd]
 .simp[cq,cd]
 intro i hi;by_cases h:i<x.2.length
 .have f:x.2.getD (i:Int).toNat cL.b8=x.2.getD i ([],[]):=by rw[bD];rfl
  have a:=sk h;have d:=l (i+1) h;rw[a,bT]at d;refine bE [(10,ab)] rfl ?_ (AK.aQ (i+1) rfl ?_ ?_ ?_ ?_)
  .simp only[ar,f,bt,show i3.bytes=8 from rfl,bh,aC,aB];and_intros<;>omega
  .simp only[ar.cat,ar,f,a,bT,aB,aC];and_intros<;>first|exact cq.same|rfl|omega
  .have e:=cI.KY (cd (x.2.take i)) (x.2.getD i ([],[])).2 _ rfl;simp only[ar.cat,ar,f,a,bT,aB,aC]at e⊢;exact⟨cq.same,e⟩
  .show i+1<=_;omega
  .omega
 .obtain rfl:i=x.2.length:=by omega
  rw[cB];refine bE [(10,ae)] rfl (by simp) (AK.leaveD rfl rfl ?_);refine c6 rfl aq ?_;refine AK.cQ (CJ (cd x.2) g) [1] rfl ?_;refine c6 rfl aq ?_;have k:=xi (X:=X) (mn (cd x.2)) (by rw[gL];exact g);rw[gL]at k;refine AK.cP k [1] rfl (λ_=>rfl) ?_;rintro⟨es,b⟩;refine c6 rfl aq (AK.l5 ⟨es,b⟩ (AK.dY [1] rfl ?_ rfl rfl rfl (λj m=>absurd m (by simp))));simp[gY]
def nh(l:List gK)(i:Nat):(cd (l.take i)).length<=(cd l).length:=by
 have h:cd l=cd (l.take i)++cd (l.drop i):=by unfold cd;grind[List.take_append_drop]
 grind
def sq(l:List Int):(dO l).length<=l.length:=ss l _
def AE(x:cW)(d:x.2.length<=4000000)(c:(cd x.2).length<=4000000):Ev X 79 [F4 x] [] (cI.sl (gY x)) []:=by
 have a:=x0 (X:=X) x d c λi _=>fG (nh _ _) c;have b:=dW.FZ (σ1:=λ_:Lw (gY x)=>[]) (E:=3) (k:=1) (n:=λ_=>(cd x.2).length) (es:=λes=>es.1) a (λ_=>rfl) (λ_=>?_) (λ_=>rfl) (λ_=>ba _);refine(b.le (res':=λ_=>cI.sl (gY x)) (λ_=>rfl) (λes=>?_)).one
 .simp only[ar.cat,ar,aB,aC];exact es.2
 .have:(gY x).length<=(cd x.2).length:=by unfold gY;rw[<-gL (cd x.2)];exact sq _
  simpa using this
def Ki(s:Bs)(i:Nat)(a:b9 s=ab)(e:3<=i)(hi:i<=s.length)(k:s.length<=4000000):Ev X 226 [dS s,dI i] [] (dB (jk s i)) []:=by
 refine Ev.bQ Tryz.func226 rfl λg=>?_;have h:=Ha a (i-1) (by omega);have f:=Ha a (i-2) (by omega);have j:=Ha a (i-3) (by omega);have c:((iH s ((i:Int)-1)).toNat:Int)=cz s (i-1):=by grind[cC]
 have d:((iH s ((i:Int)-2)).toNat:Int)=cz s (i-2):=by grind[cC]
 have b:((iH s ((i:Int)-3)).toNat:Int)=cz s (i-3):=by grind[cC]
 refine bA rfl ?_ (AK.bq rfl ?_)
 .simp only[ar,bt,c,d,b];omega
 .simp only[ar,ar.cat,c,d,b,jk,dl,aB];grind
abbrev Kj:dv:=nt aS aI (λs i=>dB (jk s i.toNat)) λs i=>[b9 s=ab,3<=i,i<=s.length,s.length<=4000000]
def QW:dH X 226 Kj:=.qn λs i h=>by
 obtain⟨b,c,d,a⟩:=h;obtain⟨m,rfl⟩:∃m:Nat,i=m:=⟨i.toNat,by omega⟩
 exact Ki s m b (by omega) (by omega) a
def QX(t:Bs)(f:Nat)(g:b9 t=ab)(m:f<=t.length)(q:t.length<=4000000):Ev X 216 [dS t,dI f] [] (dI (cutAt t f)) []:=by
 refine Ev.bQ Tryz.func216 rfl λo=>?_;have b:bR X [(226,Kj)]:=.cons QW .nil;refine bX b rfl aq ?_;refine AK.jf (λj=>j<=5/\tb t f (5-j)=cutAt t f) (λj:Nat=>[(0,dS t),(1,dI f),(5,dI (3+j))]) (λ_=>[]) (λj=>5-j) 0 rfl ?_ rfl aq ⟨by omega,rfl⟩ ?_
 .simp
 rintro j ⟨p,a⟩;by_cases h:j<5
 .obtain⟨k,l⟩:∃k,5-j=k+1:=⟨4-j,by omega⟩
  have d:f+(7-k)=f+3+j:=by omega
  rw[l]at a;simp only[tb,d]at a;by_cases i:t.length<=f+3+j
  .rw[bc i]at a;refine aO b [(7,ab),(15,ab)] rfl ?_ (AK.gO (cg.zero rfl ?_))
   .simp only[ar,bt,bh,aC,aB];omega
   .simp[<-a]
  rw[aW i]at a;have e:((f:Int)+(3+(j:Int))).toNat=f+3+j:=by omega
  cases c:jk t (f+3+j)with
  |true =>
   rw[c,bc rfl]at a;refine aO b [(7,ab),(15,ae),(22,ab)] rfl ?_ (AK.gO (cg.zero rfl ?_))
   .simp only[ar,bt,e,c,g,bh,bM,aC,aB];omega
   .simp[<-a];omega
  |false =>
   rw[c,aW (by simp)]at a;refine aO b [(7,ab),(15,ae),(22,ae)] rfl ?_ (AK.fH (j+1) rfl ?_ rfl aq ⟨by omega,by grind⟩ (by omega))
   .simp only[ar,bt,e,c,g,bh,bM,aC,aB];omega
   .simp;omega
 .have e:cutAt t f=min (f+8) t.length:=by rw[<-a,show 5-j=0 by omega];rfl
  have n:bt .i64 ((min (f+8) t.length:Nat):Int):=by simp only[bt];omega
  refine aO b [(7,ae)] rfl ?_ (AK.leave rfl rfl ?_)
  .simp only[ar,bt,bh,bM];omega
  refine bX b rfl ?_ ?_
  .simp only[ar,bt];omega
  refine AK.law (Ag ((min (f+8) t.length:Nat):Int) rfl rfl rfl (by omega) n) rfl rfl ?_;refine bX b rfl aq (AK.bq rfl ?_);simp[e]
abbrev TY:dv:=nt aS aI (λs i=>dI (cutAt s i.toNat)) λs i=>[b9 s=ab,0<=i,i<=s.length,s.length<=4000000]
def WZ:dH X 216 TY:=.qn λs i h=>by
 obtain⟨b,c,d,a⟩:=h;obtain⟨m,rfl⟩:∃m:Nat,i=m:=⟨i.toNat,by omega⟩
 exact QX s m b (by omega) a
abbrev mi(t:Bs):List Int:=(Aq t).map λn:Nat=>(n:Int)
def Kk(t:Bs)(l:b9 t=ab)(p:t.length<=4000000):Ev X 194 [dS t] [] (cI.sl (mi t)) []:=by
 refine Ev.bQ Tryz.func194 rfl λo=>?_;have a:bR X [(216,TY)]:=.cons WZ .nil;refine aO a [(1000003,ab)] rfl aq ?_;refine AK.ik 3 3 1 rfl rfl ?_;refine bX a rfl aq ?_;refine AK.bS 1 (λs:Nat×List Int=>s.1<=t.length/\s.2.length<=s.1/\∃k,t.length<=s.1+k/\mi t=s.2++(mj t k s.1).map λn:Nat=>(n:Int)) (λs=>[(0,dS t),(3,.e (.one (.vec 0 1 s.2.length (cI.fn s.2)))),(4,dI s.1)]) (λs=>[.vec 3 1 s.2.length (cI.fn s.2)]) (λs=>t.length-s.1) (0,[]) rfl ?_ rfl ?_ rfl ⟨by simp,by simp,t.length,by simp,by simp[mi,Aq]⟩ ?_
 .simp
 .simp
 rintro⟨f,acc⟩ ⟨c,b,k,j,g⟩;simp only at c b j g;by_cases h:f<t.length
 .obtain⟨k,rfl⟩:∃k',k=k'+1:=⟨k-1,by omega⟩
  have m:=m8 t f h;have d:=cI.cm acc (cutAt t f:Int);have i:acc.length+1=(acc++[(cutAt t f:Int)]).length:=by simp
  refine aO a [(9,ab)] rfl ?_ (AK.aQ (cutAt t f,acc++[(cutAt t f:Int)]) rfl ?_ ?_ ?_ ?_)
  .simp only[ar,l,show i3.bytes=8 from rfl,bh,aC,aB];and_intros<;>omega
  .exact ar.cat.2 ⟨rfl,ar.cat.2 ⟨⟨i,d⟩,ar.cat.2 ⟨rfl,aq⟩⟩⟩
  .exact ar.cat.2 ⟨⟨i,d⟩,aq⟩
  .refine⟨m.2.1,by grind,k,by grind,?_⟩;rw[g];simp only[mj,bc h];simp
  grind
 .have e:mi t=acc:=by
   have:mj t k f=[]:=by cases k<;>simp[mj,h]
   grind
  refine aO a [(9,ae)] rfl (by simp only[ar,bM];omega) (AK.leaveD rfl rfl ?_);refine bX a rfl aq (AK.bq rfl ?_);rw[e];simp
abbrev Kl:dv:=kF aS (λt=>cI.sl (mi t)) λt=>[b9 t=ab,t.length<=4000000]
def QY:dH X 194 Kl:=.oz λt h=>Kk t h.1 h.2
def drop_cons{l r:List α}{x:α}(h:l.drop i=x::r)(d:α):i<l.length/\l.getD i d=x/\l.drop (i+1)=r:=by grind[List.drop_eq_nil_of_le,List.drop_eq_getElem_cons]
def yz(t:Bs):∀k f,(mj t k f).length<=k
 |0,_=>ba _
 |k+1,f=>by
  simp only[mj];split
  .have:=yz t k (cutAt t f);grind
  .simp
def Nz(t:Bs)(v:b9 t=ab)(y:t.length<=4000000):Ev X 143 [dS t] [] (cS.sl (pieces t)) []:=by
 refine Ev.bQ Tryz.func143 rfl λB=>?_;have d:bR X [(194,Kl)]:=.cons QY .nil;have A:(mi t).length<=t.length:=by simp only[mi,jT];exact yz t _ _
 refine aO d [(1000002,ab)] rfl aq ?_;refine AK.ik 3 9 1 rfl rfl ?_;refine bX d rfl (by simp only[ar,v];grind) ?_;refine AK.bS 1 (λs:Nat×Nat×List Bs=>s.1<=(mi t).length/\s.2.1<=t.length/\s.2.2.length<=s.1/\∃k,t.length<=s.2.1+k/\(mi t).drop s.1=((mj t k s.2.1).map λn:Nat=>(n:Int))/\pieces t=s.2.2++fp t k s.2.1) (λs=>[(0,dS t),(3,.e (.one (.vec 0 1 s.2.2.length (cS.fn s.2.2)))),(4,dI s.2.1),(5,cI.sl (mi t)),(6,dI s.1)]) (λs=>[.vec 9 1 s.2.2.length (cS.fn s.2.2)]) (λs=>(mi t).length-s.1) (0,0,[]) rfl ?_ rfl ?_ rfl ⟨by simp,by simp,by simp,t.length,by simp,by simp[mi,Aq],by simp[pieces]⟩ ?_
 .simp
 .simp
 rintro⟨i,f,acc⟩ ⟨hi,l,g,k,u,m,o⟩;simp only at hi l g u m o;by_cases h:i<(mi t).length
 .have c:mj t k f≠[]:=by grind[List.length_drop]
  obtain⟨k,rfl⟩:∃k',k=k'+1:=by
   cases k with
   |zero=>exact absurd rfl c
   |succ k=>grind
  have a:f<t.length:=by
   rcases cM f t.length with h|h
   .exact h
   .exact absurd (by simp only[mj,aW (show¬f<t.length by omega)]) c
  simp only[mj,bc a,kZ]at m;obtain⟨_,z,g2⟩:=drop_cons m 0;have w:=m8 t f a;have j:(mi t).getD (i:Int).toNat cI.b8=(cutAt t f:Int):=by grind
  have b:rR t (aa (f:Int)) (aa (cutAt t f:Int))=(t.drop f).take (cutAt t f-f):=by simp[rR,List.drop_take]
  have q:=cS.cm acc ((t.drop f).take (cutAt t f-f));have r:acc.length+1=(acc++[(t.drop f).take (cutAt t f-f)]).length:=by simp
  refine aO d [(13,ab)] rfl ?_ (AK.aQ (i+1,cutAt t f,acc++[(t.drop f).take (cutAt t f-f)]) rfl ?_ ?_ ?_ ?_)
  .simp only[ar,j,bt,jz,show i9.bytes=16 from rfl,bh,aC,aB];and_intros<;>omega
  .simp only[ar.cat,ar,j,b,aC,aB];and_intros<;>first|exact r|exact q|exactλ_ _=>rfl|omega
  .simp only[ar.cat,ar,j,b,aC,aB];and_intros<;>first|exact r|exact q
  .refine⟨by grind,w.2.1,by grind,k,by grind,g2,?_⟩;rw[o];simp only[fp,bc a];simp
  grind
 .have e:pieces t=acc:=by
   have p:mj t k f=[]:=by grind[List.map_eq_nil_iff]
   have a:¬f<t.length:=by
    intro x;cases k with
    |zero=>omega
    |succ k=>simp only[mj,bc x]at p;cases p
   rw[o];cases k<;>simp[fp,a]
  refine aO d [(13,ae)] rfl (by simp only[ar,bM];omega) (AK.leaveD rfl rfl ?_);refine bX d rfl aq (AK.bq rfl ?_);rw[e];simp
abbrev Ga:dv:=kF aS (λt=>cS.sl (pieces t)) λt=>[b9 t=ab,t.length<=4000000]
def Km:dH X 143 Ga:=.oz λt h=>Nz t h.1 h.2
def _root_.Go.AM.iT.pe(c:iT α)(l:List α)(x y:α):cq (l.length+1+1) (cR (l.length+1) (cR l.length (c.fn l) λq=>[c.enc x].getD q []) λq=>[c.enc y].getD q []) (c.fn (l++[x,y])):=by
 have h1:=c.cm l x;have h2:=c.cm (l++[x]) y;rw[show(l++[x]).length=l.length+1 by simp,show l++[x]++[y]=l++[x,y] by simp]at h2;intro q a;rw[<-h2 q a];simp only[cR];by_cases e:q<l.length+1
 .rw[bc e,bc e];exact h1 q e
 grind
abbrev W2(x:db):D:=.e (.agg [.c (.int .i64 x.1),.c (.str x.2)])
def jP(x:db)(acc:List db×Bool)(y:db):List db×Bool:=if acc.2=ab then(acc.1++[y],ab)else if x.1<y.1 then(acc.1++[x,y],ab)else(acc.1++[y],ae)
def yD(x:db):∀(l:List db)(a:List db),(l.foldl (jP x) (a,ab))=(a++l,ab)
 |[],a=>by simp
 |y::r,a=>by rw[jq,show jP x (a,ab) y=(a++[y],ab)from rfl,yD x r];simp
def yE(x:db):∀(l:List db)(a:List db),(if(l.foldl (jP x) (a,ae)).2=ab then(l.foldl (jP x) (a,ae)).1 else(l.foldl (jP x) (a,ae)).1++[x])=a++r8 l x
 |[],a=>by simp[r8]
 |y::r,a=>by
  rw[jq];by_cases h:x.1<y.1
  .rw[show jP x (a,ae) y=(a++[x,y],ab) by simp[jP,h],yD];simp[r8,h]
  .rw[show jP x (a,ae) y=(a++[y],ae) by simp[jP,h],yE x r];simp[r8,h]
theorem yF(x:db):∀(l:List db)(a:List db×Bool),(l.foldl (jP x) a).1.length<=a.1.length+l.length+1-(if a.2=ab then 1 else 0)
 |[],a=>by grind
 |y::r,a=>by rw[jq];have:=yF x r (jP x a y);unfold jP at this⊢;grind
abbrev uA(x:db)(l:List db)(i:Nat):List db×Bool:=(l.take i).foldl (jP x) ([],ae)
def Hr{x:db}{l:List db}(h:i<l.length):uA x l (i+1)=jP x (uA x l i) (l.getD i (0,[])):=by grind[bx]
def Ca(x:db)(l:List db)(i:Nat):(uA x l i).1.length<=l.length+1:=by grind[yF]
abbrev p3F(l:List db)(x:db)(i:Nat)(a:List db×Bool):Fr:=[(0,ef.sl l),(3,.e (.one (.ptr 0 0))),(5,.e (.one (.vec 1 2 a.1.length (ef.fn a.1)))),(6,dB a.2),(7,dI i)]
abbrev p3B(x:db)(a:List db):List bm:=[.cells 60 [.c (.int .i64 x.1),.c (.str x.2)],.vec 60 2 a.length (ef.fn a)]
def NI(l:List db)(x:db)(q:l.length<=4000000):Ev X 148 [ef.sl l,W2 x] [] (ef.sl (r8 l x)) []:=by
 refine Ev.bQ Tryz.func148 rfl λp=>?_;refine bE [(1000002,ab)] rfl aq ?_;refine AK.ik 5 60 2 rfl rfl ?_;refine c6 rfl aq ?_;refine AK.bS 2 (λi=>i<=l.length) (λi:Nat=>p3F l x i (uA x l i)) (λi=>p3B x (uA x l i).1) (λi=>l.length-i) 0 rfl ?_ rfl ?_ rfl (by omega) ?_
 .simp[uA]
 .simp[uA]
 intro i hi;by_cases h:i<l.length
 .have n:=Hr (x:=x) h;have e:=Ca x l i;have g:l.getD (i:Int).toNat ef.b8=l.getD i (0,[]):=by grind
  generalize uA x l i=a at n e;obtain⟨a,b⟩:=a;simp only at e;have k:=ef.cm a (l.getD i (0,[]));have m:=ef.pe a x (l.getD i (0,[]));cases b with
  |true =>
   have c:uA x l (i+1)=(a++[l.getD i (0,[])],ab):=n;have j:a.length+1=(a++[l.getD i (0,[])]).length:=by simp
   refine bE [(12,ab)] rfl ?_ (AK.aQ (i+1) rfl ?_ ?_ ?_ ?_)
   .simp only[ar,g,bt,show i60.bytes=24 from rfl,bh,aC,aB];and_intros<;>omega
   .rw[c];simp only[ar.cat,ar,g,aC,aB];and_intros<;>first|exact j|exact k|exactλ_ _=>rfl|rfl|omega
   .rw[c];simp only[ar.cat,ar,g,aC,aB];and_intros<;>first|exact j|exact k|exactλ_ _=>rfl|rfl|omega
   .grind
   .omega
  |false =>
   by_cases f:x.1<(l.getD i (0,[])).1
   .have c:uA x l (i+1)=(a++[x,l.getD i (0,[])],ab):=by rw[n];simp only[jP,bc f];rfl
    have j:a.length+1+1=(a++[x,l.getD i (0,[])]).length:=by simp
    refine bE [(12,ab),(25,ab)] rfl ?_ (AK.aQ (i+1) rfl ?_ ?_ ?_ ?_)
    .simp only[ar,g,bt,show i60.bytes=24 from rfl,f,js,bh,aC,aB];and_intros<;>omega
    .rw[c];simp only[ar.cat,ar,g,aC,aB];and_intros<;>first|exact j|exact m|exactλ_ _=>rfl|rfl|omega
    .rw[c];simp only[ar.cat,ar,g,aC,aB];and_intros<;>first|exact j|exact m|exactλ_ _=>rfl|rfl|omega
    .grind
    .omega
   .have c:uA x l (i+1)=(a++[l.getD i (0,[])],ae):=by rw[n];simp only[jP,aW f];rfl
    have j:a.length+1=(a++[l.getD i (0,[])]).length:=by simp
    refine bE [(12,ab),(25,ae)] rfl ?_ (AK.aQ (i+1) rfl ?_ ?_ ?_ ?_)
    .simp only[ar,g,bt,show i60.bytes=24 from rfl,bh,f,l7,nC,bM,aC,aB];and_intros<;>omega
    .rw[c];simp only[ar.cat,ar,g,aC,aB];and_intros<;>first|exact j|exact k|exactλ_ _=>rfl|rfl|omega
    .rw[c];simp only[ar.cat,ar,g,aC,aB];and_intros<;>first|exact j|exact k|exactλ_ _=>rfl|rfl|omega
    .grind
    .omega
 .obtain rfl:i=l.length:=by omega
  have d:=yE x l [];have e:=Ca x l l.length;refine bE [(12,ae)] rfl (by simp) (AK.leaveD rfl rfl ?_);have o:uA x l l.length=l.foldl (jP x) ([],ae):=by grind
  rw[o]at e⊢;generalize l.foldl (jP x) ([],ae)=a at *;obtain⟨a,b⟩:=a;simp only[List.nil_append]at d e;cases b with
  |true =>
   simp only[bY]at d;subst d;exact c6 rfl aq (AK.bq rfl)
  |false =>
   simp only[iG,b6]at d;have k:=ef.cm a x;refine c6 rfl ?_ (AK.bq rfl ?_)
   .simp only[ar,show i60.bytes=24 from rfl,aC,aB];grind
   .rw[<-d];simp only[ar.cat,ar,aC,aB];and_intros<;>first|exact k|simp
abbrev O6:dv:=nt (aL ef) R5 (λl x=>ef.sl (r8 l x)) λl _=>[l.length<=4000000]
def T5:dH X 148 O6:=.qn λl x h=>NI l x h
abbrev W3(x:dy):D:=.e (.agg [.c (.int .i64 x.1),.c (.int .i64 x.2)])
def eO(x:dy)(acc:List dy×Bool)(y:dy):List dy×Bool :=
 if acc.2=ab then(if y.1=x.1 then acc else(acc.1++[y],ab))else if x.1<=y.1 then(if y.1=x.1 then(acc.1++[x],ab)else(acc.1++[x,y],ab))else(acc.1++[y],ae)
def p9(x:dy):∀(l:List dy)(a:List dy),(l.foldl (eO x) (a,ab))=(a++l.filter λz=>!(z.1==x.1),ab)
 |[],a=>by simp
 |y::r,a=>by
  rw[jq];by_cases h:y.1=x.1
  .rw[show eO x (a,ab) y=(a,ab) by simp[eO,h],p9 x r];simp[h]
  .rw[show eO x (a,ab) y=(a++[y],ab) by simp[eO,h],p9 x r];simp[h]
def yG(x:dy):∀(l:List dy)(a:List dy),(if(l.foldl (eO x) (a,ae)).2=ab then(l.foldl (eO x) (a,ae)).1 else(l.foldl (eO x) (a,ae)).1++[x])=a++qX l x
 |[],a=>by simp[qX]
 |y::r,a=>by
  rw[jq];by_cases h:x.1<=y.1
  .have c:¬y.1<x.1:=by omega
   by_cases b:y.1=x.1
   .rw[show eO x (a,ae) y=(a++[x],ab) by simp[eO,b],p9];simp[qX,b]
   .rw[show eO x (a,ae) y=(a++[x,y],ab) by simp[eO,h,b],p9];simp[qX,c,b]
  .have c:y.1<x.1:=by omega
   rw[show eO x (a,ae) y=(a++[y],ae) by simp[eO,h],yG x r];simp[qX,c]
theorem yH(x:dy):∀(l:List dy)(a:List dy×Bool),(l.foldl (eO x) a).1.length<=a.1.length+l.length+1-(if a.2=ab then 1 else 0)
 |[],a=>by grind
 |y::r,a=>by
  rw[jq];have c:=yH x r (eO x a y);obtain⟨a,b⟩:=a;simp only[en];cases b with
  |true =>
   by_cases d:y.1=x.1
   .rw[show eO x (a,ab) y=(a,ab) by simp[eO,d]]at c⊢;grind
   .rw[show eO x (a,ab) y=(a++[y],ab) by simp[eO,d]]at c⊢;grind
  |false =>
   by_cases h:x.1<=y.1
   .by_cases d:y.1=x.1
    .rw[show eO x (a,ae) y=(a++[x],ab) by simp[eO,d]]at c⊢;grind
    .rw[show eO x (a,ae) y=(a++[x,y],ab) by simp[eO,h,d]]at c⊢;grind
   .rw[show eO x (a,ae) y=(a++[y],ae) by simp[eO,h]]at c⊢;grind
abbrev r9(x:dy)(l:List dy)(i:Nat):List dy×Bool:=(l.take i).foldl (eO x) ([],ae)
def Hs{x:dy}{l:List dy}(h:i<l.length):r9 x l (i+1)=eO x (r9 x l i) (l.getD i (0,0)):=by grind[bx]
def Cb(x:dy)(l:List dy)(i:Nat):(r9 x l i).1.length<=l.length+1:=by grind[yH]
abbrev p4F(l:List dy)(x:dy)(i:Nat)(a:List dy×Bool):Fr:=[(0,oA.sl l),(3,.e (.one (.ptr 0 0))),(5,.e (.one (.vec 1 2 a.1.length (oA.fn a.1)))),(6,dB a.2),(7,dI i)]
abbrev p4B(x:dy)(a:List dy):List bm:=[.cells 187 [.c (.int .i64 x.1),.c (.int .i64 x.2)],.vec 187 2 a.length (oA.fn a)]
def NJ(l:List dy)(x:dy)(q:l.length<=4000000):Ev X 147 [oA.sl l,W3 x] [] (oA.sl (qX l x)) []:=by
 refine Ev.bQ Tryz.func147 rfl λp=>?_;refine bE [(1000002,ab)] rfl aq ?_;refine AK.ik 5 187 2 rfl rfl ?_;refine c6 rfl aq ?_;refine AK.bS 2 (λi=>i<=l.length) (λi:Nat=>p4F l x i (r9 x l i)) (λi=>p4B x (r9 x l i).1) (λi=>l.length-i) 0 rfl ?_ rfl ?_ rfl (by omega) ?_
 .simp[r9]
 .simp[r9]
 intro i hi;by_cases h:i<l.length
 .have n:=Hs (x:=x) h;have k:=Cb x l i;have f:l.getD (i:Int).toNat oA.b8=l.getD i (0,0):=by grind
  generalize r9 x l i=a at n k;obtain⟨a,b⟩:=a;simp only at k;have j:=oA.cm a (l.getD i (0,0));have m:=oA.cm a x;have d:=oA.pe a x (l.getD i (0,0));cases b with
  |true =>
   by_cases heq:(l.getD i (0,0)).1=x.1
   .have c:r9 x l (i+1)=(a,ab):=by rw[n];simp only[eO,bY,bc heq]
    refine bE [(12,ab),(38,ae)] rfl ?_ (AK.aQ (i+1) rfl ?_ ?_ ?_ ?_)
    .simp only[ar,f,bt,show i187.bytes=16 from rfl,bh,bM,hI,rn,eG,dG,pF,cT,heq,fD,nC,jS,er,ny,js,l7,aC,aB];and_intros<;>omega
    .rw[c];simp only[ar.cat,ar,f,aC,aB];and_intros<;>first|exact j|exact m|exact d|exactλ_ _=>rfl|rfl|omega|simp
    .rw[c];simp only[ar.cat,ar,f,aC,aB];and_intros<;>first|exact j|exact m|exact d|exactλ_ _=>rfl|rfl|omega|simp
    .grind
    .omega
   .have c:r9 x l (i+1)=(a++[l.getD i (0,0)],ab):=by rw[n];simp only[eO,bY,aW heq]
    refine bE [(12,ab),(38,ab)] rfl ?_ (AK.aQ (i+1) rfl ?_ ?_ ?_ ?_)
    .simp only[ar,f,bt,show i187.bytes=16 from rfl,bh,bM,hI,rn,eG,dG,pF,cT,heq,fD,nC,jS,er,ny,js,l7,aC,aB];and_intros<;>omega
    .rw[c];simp only[ar.cat,ar,f,aC,aB];and_intros<;>first|exact j|exact m|exact d|exactλ_ _=>rfl|rfl|omega|simp
    .rw[c];simp only[ar.cat,ar,f,aC,aB];and_intros<;>first|exact j|exact m|exact d|grind|rfl|omega|simp
    .grind
    .omega
  |false =>
   by_cases g:x.1<=(l.getD i (0,0)).1
   .by_cases heq:(l.getD i (0,0)).1=x.1
    .have c:r9 x l (i+1)=(a++[x],ab):=by rw[n];simp only[eO,bc g,bc heq];rfl
     refine bE [(12,ab),(25,ab),(38,ae)] rfl ?_ (AK.aQ (i+1) rfl ?_ ?_ ?_ ?_)
     .simp only[ar,f,bt,show i187.bytes=16 from rfl,bh,bM,hI,rn,eG,dG,pF,cT,g,heq,fD,nC,jS,er,ny,js,l7,aC,aB];and_intros<;>omega
     .rw[c];simp only[ar.cat,ar,f,aC,aB];and_intros<;>first|exact j|exact m|exact d|exactλ_ _=>rfl|rfl|omega|simp
     .rw[c];simp only[ar.cat,ar,f,aC,aB];and_intros<;>first|exact j|exact m|exact d|grind|rfl|omega|simp
     .grind
     .omega
    .have c:r9 x l (i+1)=(a++[x,l.getD i (0,0)],ab):=by rw[n];simp only[eO,bc g,aW heq];rfl
     refine bE [(12,ab),(25,ab),(38,ab)] rfl ?_ (AK.aQ (i+1) rfl ?_ ?_ ?_ ?_)
     .simp only[ar,f,bt,show i187.bytes=16 from rfl,bh,bM,hI,rn,eG,dG,pF,cT,g,heq,fD,nC,jS,er,ny,js,l7,aC,aB];and_intros<;>omega
     .rw[c];simp only[ar.cat,ar,f,aC,aB];and_intros<;>first|exact j|exact m|exact d|exactλ_ _=>rfl|rfl|omega|simp
     .rw[c];simp only[ar.cat,ar,f,aC,aB];and_intros<;>first|exact j|exact m|exact d|grind|rfl|omega|simp
     .grind
     .omega
   .have heq:¬(l.getD i (0,0)).1=x.1:=by omega
    have c:r9 x l (i+1)=(a++[l.getD i (0,0)],ae):=by rw[n];simp only[eO,aW g];rfl
    refine bE [(12,ab),(25,ae),(38,ab)] rfl ?_ (AK.aQ (i+1) rfl ?_ ?_ ?_ ?_)
    .simp only[ar,f,bt,show i187.bytes=16 from rfl,bh,bM,hI,rn,eG,dG,pF,cT,g,heq,fD,nC,jS,er,ny,js,l7,aC,aB];and_intros<;>omega
    .rw[c];simp only[ar.cat,ar,f,aC,aB];and_intros<;>first|exact j|exact m|exact d|exactλ_ _=>rfl|rfl|omega|simp
    .rw[c];simp only[ar.cat,ar,f,aC,aB];and_intros<;>first|exact j|exact m|exact d|grind|rfl|omega|simp
    .grind
    .omega
 .obtain rfl:i=l.length:=by omega
  have e:=yG x l [];have k:=Cb x l l.length;refine bE [(12,ae)] rfl (by simp) (AK.leaveD rfl rfl ?_);have o:r9 x l l.length=l.foldl (eO x) ([],ae):=by grind
  rw[o]at k⊢;generalize l.foldl (eO x) ([],ae)=a at *;obtain⟨a,b⟩:=a;simp only[List.nil_append]at e k;cases b with
  |true =>
   simp only[bY]at e;subst e;exact c6 rfl aq (AK.bq rfl)
  |false =>
   simp only[iG,b6]at e;have j:=oA.cm a x;refine c6 rfl ?_ (AK.bq rfl ?_)
   .simp only[ar,show i187.bytes=16 from rfl,aC,aB];grind
   .rw[<-e];simp only[ar.cat,ar,aC,aB];and_intros<;>first|exact j|simp
abbrev O7:dv:=nt (aL oA) U4 (λl x=>oA.sl (qX l x)) λl _=>[l.length<=4000000]
def T6:dH X 147 O7:=.qn λl x h=>NJ l x h
abbrev Ar(p:bo):List dy:=p.2.map λx=>(x.1,p.1)
def tm(l:List bo)(i j:Nat):List dy:=eF (l.take i)++(Ar (l.getD i (0,[]))).take j
def wP{l:List bo}(h:i<l.length):eF (l.take (i+1))=eF (l.take i)++Ar (l.getD i (0,[])):=by rw[bx h (0,[])];simp[eF]
theorem Kw(l:List bo)(i:Nat):(eF (l.take i)).length<=(eF l).length:=by
 have h:eF l=eF (l.take i)++eF (l.drop i):=by unfold eF;grind[List.take_append_drop]
 grind
def Cc{l:List bo}(h:i<l.length):∃r,eF l=tm l i j++r:=by
 have a:eF l=eF (l.take (i+1))++eF (l.drop (i+1)):=by unfold eF;grind[List.take_append_drop]
 refine⟨(Ar (l.getD i (0,[]))).drop j++eF (l.drop (i+1)),?_⟩;rw[a,wP h,tm,jo,jo];grind[List.take_append_drop]
theorem Kx(l:List dy)(x:dy):(qX l x).length<=l.length+1:=by
 induction l with
 |nil=>simp[qX]
 |cons y r a =>
  simp only[qX];grind
theorem yB(l:List dy):∀a:List dy,(l.foldl qX a).length<=a.length+l.length:=by
 induction l with
 |nil=>grind
 |cons y r b=>grind[Kx]
def Ey(l:List bo)(x:l.length<=4000000)(u:(eF l).length<=100000):Ev X 103 [cP.sl l] [] (oA.sl (indexOf l)) []:=by
 refine Ev.bQ Tryz.func103 rfl λy=>?_;have a:bR X [(146,Kh),(147,O7)]:=.cons QV (.cons T6 .nil);refine cu a rfl aq ?_;refine AK.bS 0 (λi=>i<=l.length/\(eF (l.take i)).all kQ=ab) (λi:Nat=>[(0,cP.sl l),(3,oA.sl ((eF (l.take i)).foldl qX [])),(4,dI i)]) (λ_=>[]) (λi=>l.length-i) 0 rfl ?_ rfl ?_ rfl ⟨by omega,rfl⟩ ?_
 .simp[eF]
 .simp
 rintro i ⟨hi,c⟩;by_cases h:i<l.length
 .have e:l.getD (i:Int).toNat cP.b8=l.getD i (0,[]):=by grind
  have n:=wP h;refine aZ a [(11,ab)] rfl (by simp only[ar,bh];omega) ?_;refine AK.bS 0 (λj=>j<=(l.getD i (0,[])).2.length/\(tm l i j).all kQ=ab) (λj:Nat=>[(0,cP.sl l),(3,oA.sl ((tm l i j).foldl qX [])),(4,dI i),(5,dI j)]) (λ_=>[]) (λj=>(l.getD i (0,[])).2.length-j) 0 rfl ?_ rfl ?_ rfl ⟨by omega,by simpa[tm]using c⟩ ?_
  .simp[tm]
  .simp
  rintro j ⟨w,o⟩;obtain⟨r,p⟩:=Cc (l:=l) (j:=j) h;have f:(tm l i j).length<=100000:=by grind
  have k:=yB (tm l i j) [];simp only[hO]at k;have t:(l.getD i (0,[])).2.length<=100000:=by grind[Kw]
  by_cases v:j<(l.getD i (0,[])).2.length
  .have b:(l.getD i (0,[])).2.getD (j:Int).toNat ef.b8=(l.getD i (0,[])).2.getD j (0,[]):=by grind
   have m:tm l i (j+1)=tm l i j++[(((l.getD i (0,[])).2.getD j (0,[])).1,(l.getD i (0,[])).1)]:=by unfold tm;rw[jo];congr 1;rw[bx (by grind) (0,0)];grind
   cases d:kQ (((l.getD i (0,[])).2.getD j (0,[])).1,(l.getD i (0,[])).1)with
   |false =>
    have s:indexOf l=[]:=by obtain⟨r,p⟩:=Cc (l:=l) (j:=j+1) h;unfold indexOf;rw[aW];grind
    refine aZ a [(21,ab),(40,ae)] rfl ?_ (AK.eP (cg.zero rfl ?_))
    .simp only[ar,e,b,d,bh,aC,aB];and_intros<;>omega
    .rw[s];simp
   |true =>
    refine aZ a [(21,ab),(40,ab)] rfl ?_ (AK.aQ (j+1) rfl ?_ ?_ ?_ ?_)
    .simp only[ar,e,b,d,bt,oA.list_fn,bh,aC,aB];and_intros<;>first|exact oA.au _|omega
    .rw[m];simp only[uM,jq,List.foldl_nil,ar.cat,ar,e,b,oA.list_fn,aC,aB];and_intros<;>first|exactλ_ _=>rfl|rfl|omega
    .simp
    .grind
    .omega
  .have q:j=(l.getD i (0,[])).2.length:=by omega
   have g:tm l i j=eF (l.take (i+1)):=by rw[n,tm];grind[List.length_map]
   refine aZ a [(21,ae)] rfl ?_ (AK.leaveD rfl rfl ?_)
   .simp only[ar,e,bM];and_intros<;>omega
   refine cu a rfl ?_ (AK.aQ (i+1) rfl ?_ ?_ ?_ ?_)
   .simp only[ar,bt];omega
   .rw[g];simp
   .simp
   .grind
   .omega
 .obtain rfl:i=l.length:=by omega
  rw[cB]at c⊢;refine aZ a [(11,ae)] rfl (by simp) (AK.leaveD rfl rfl ?_);refine cu a rfl aq (AK.bq rfl ?_);simp[indexOf,c]
abbrev Ks:dv:=kF (aL cP) (λl=>oA.sl (indexOf l)) λl=>[l.length<=4000000,(eF l).length<=100000]
def Q1:dH X 103 Ks:=.oz λl h=>Ey l h.1 h.2
abbrev As:dv:=nt aI aS (λk p=>dI (iM k p)) λk p=>[cD k=ab,bH p=ab]
abbrev Ky:dv:=kF aS (λp=>dS (iA p)) λp=>[bH p=ab]
def O8:dH X 149 Ky:=.oz λp h=>Ny p h
theorem Kz(l:List db)(x:db):(r8 l x).length=l.length+1:=by
 induction l with
 |nil=>simp[r8]
 |cons y r a=>simp only[r8];split<;>simp[a]
def Q5(k:Int)(ps:List Bs):List db:=ps.foldl (λl p=>r8 l (iM k p,iA p)) []
def Ge(k:Int)(ps:List Bs):(Q5 k ps).length=ps.length:=by
 have h:∀(ps:List Bs) (a:List db),(ps.foldl (λl p=>r8 l (iM k p,iA p)) a).length=a.length+ps.length:=by
  intro ps;induction ps with
  |nil=>grind
  |cons p r b=>grind[Kz]
 have:=h ps [];rw[hO,bz]at this;exact this
def KA{k:Int}{ps:List Bs}(h:i<ps.length):Q5 k (ps.take (i+1))=r8 (Q5 k (ps.take i)) (iM k (ps.getD i []),iA (ps.getD i [])):=by unfold Q5;grind[bx]
abbrev pkB(no:Int)(l:List db):bm:=.cells 39 [.c (.int .i64 no),.c (.sl ae 2 l.length (ef.fn l))]
def Kp(no k:Int)(ps:List Bs)(g:cD k=ab)(n:∀p∈ps,bH p=ab)(q:ps.length<=4000000):Ev X 104 [dI no,dI k,cS.sl ps] [] (qo (jG no k ps)) []:=by
 refine Ev.kW tok Tryz.func104 rfl rfl rfl λo=>?_;have a:bR X [(114,As),(149,Ky),(148,O6)]:=.cons Ap (.cons O8 (.cons T5 .nil));refine cu a rfl aq ?_;refine AK.bS 2 (λi=>i<=ps.length) (λi:Nat=>[(1,dI k),(2,cS.sl ps),(6,.e (.one (.ptr 0 0))),(7,.e (.one (.ptr 1 0))),(8,dI i)]) (λi=>[.cells 39 [.c (.int .i64 0),.c (.sl ab 0 0 λ_=>[])],pkB no (Q5 k (ps.take i))]) (λi=>ps.length-i) 0 rfl ?_ rfl ?_ rfl (by omega) ?_
 .simp
 .simp[Q5]
 intro i hi;by_cases h:i<ps.length
 .have f:ps.getD (i:Int).toNat cS.b8=ps.getD i []:=by grind
  have d:bH (ps.getD i [])=ab:=n _ (by grind);have l:=KA (k:=k) h;have b:=Ge k (ps.take i);rw[List.length_take]at b;refine aZ a [(15,ab)] rfl ?_ (AK.aQ (i+1) rfl ?_ ?_ ?_ ?_)
  .simp only[ar,f,g,d,bt,ef.list_fn,bh,aC,aB];and_intros<;>first|exact ef.au _|omega
  .simp
  .rw[l];simp only[ar.cat,ar,f,ef.list_fn,aC,aB];and_intros<;>first|exactλ_ _=>rfl|rfl|omega
  .grind
  .omega
 .obtain rfl:i=ps.length:=by omega
  rw[cB];refine aZ a [(15,ae)] rfl (by simp) (AK.leaveD rfl rfl ?_);refine cu a rfl aq ?_;refine AK.kV () [] rfl rfl rfl rfl rfl rfl rfl rfl ?_ rfl rfl rfl rfl (λj m=>absurd m (by simp));simp[jG,Q5]
def Hv(p:Bs):Ev X 196 [dS p] [] (dB (bH p)) []:=by
 refine Ev.bQ Tryz.func196 rfl λb=>?_;have a:bR X [(63,Ao),(151,NM)]:=.cons B8 (.cons t151 .nil);by_cases h:1<=p.length/\p.length<=8
 .refine aO a [(6,ab)] rfl ?_ (AK.bq rfl ?_)
  .simp;omega
  .simp[bH,h.1,h.2]
 .refine aO a [(6,ae)] rfl ?_ (AK.bq rfl ?_)
  .simp;omega
  .have:bH p=ae:=by simp only[bH,<-Bool.decide_and,gH h,pD]
   simp[this]
abbrev Gf:dv:=kF aS (λp=>dB (bH p)) λ_=>[]
def NN:dH X 196 Gf:=.oz λp _=>Hv p
def Hw(p:Bs):Ev X 152 [dS p] [] (dS (iA p)) []:=by
 refine Ev.bQ Tryz.func152 rfl λb=>?_;have a:bR X [(196,Gf),(149,Ky)]:=.cons NN (.cons O8 .nil);cases h:bH p with
 |true=>exact aO a [(5,ae)] rfl (by simp[h]) (AK.bq rfl)
 |false=>exact aO a [(5,ab)] rfl (by simp[h]) (AK.bq rfl (by simp[iA,h]))
abbrev Gg:dv:=kF aS (λp=>dS (iA p)) λ_=>[]
def NO:dH X 152 Gg:=.oz λp _=>Hw p
def Hx(p:Bs):(iA p).length<=8:=by
 unfold iA;split
 .rename_i h;simp only[bH,bJ,bh]at h;grind[wK]
 .simp
def Cs(b:Bs):Ev X 113 [dS b] [] (Ae (fj b)) []:=by
 refine Ev.bQ Tryz.func113 rfl λr=>?_;have p:=r.str 0 rfl;have i:bR X [(152,Gg)]:=.cons NO .nil;refine bA rfl aq ?_;have fin:∀n,n<=b.length->strip (b.take n)=strip b->(n=0∨strip (b.take n)=b.take n)->b.take n=strip b:=λn a h g=>by
  rcases g with rfl|g
  .simpa[strip]using h
  grind
 have rest:∀n,n<=b.length->b.take n=strip b->fj b=if b.length<=8/\iA (strip b)=b/\n≠0 then aa (b.take n)else af:=λn a h=>by
  have t:=Hx (strip b);have l:n=0↔strip b=[]:=by grind[List.take_eq_nil_iff]
  unfold fj;rw[h];by_cases d:iA (strip b)=b
  .by_cases o:bH (strip b)=ab
   .have:n≠0:=λq=>by rw[l.1 q]at o;cases o
    grind
   .have q:n=0:=l.2 (by rw[iA,aW o]at d;grind);grind
  grind
 refine AK.kE (S2:=Nat) 0 rfl rfl (λn=>n<=b.length/\b.take n=strip b) (λn=>[(0,dS b),(4,dI n)]) (λ_=>[]) 0 (λn=>n<=b.length/\strip (b.take n)=strip b) (λn:Nat=>[(0,dS b),(4,dI n)]) (λ_=>[]) (λn=>n) b.length rfl (by simp) rfl aq rfl ⟨by omega,by simp⟩ ?_ ?_
 .rintro out n ⟨a,c⟩;rcases n with _|n
  .refine aY [(9,ae),(15,ae)] rfl (by simp) (AK.leaveD rfl rfl ?_);exact out 0 ⟨a,fin 0 a c (.inl rfl)⟩ rfl (by simp) rfl aq
  have l:=wA (s:=b) (n:=n) (by omega);have f:((n:Int)+1-1).toNat=n:=by omega
  by_cases g:b.getD n 0=46
  .refine aY [(9,ab),(15,ab)] rfl ?_ (AK.aQ n rfl ?_ aq ⟨by omega,?_⟩ (by omega))
   .have d:cz b n=46:=by unfold cz;rw[g];rfl
    simp[-ah,cC,f,d,bt];omega
   .simp
   grind
  .refine aY [(9,ab),(15,ae)] rfl ?_ (AK.leaveD rfl rfl ?_)
   .have d:cz b n≠46:=by unfold cz;intro e;exact g (pC.1 (by grind))
    simp[-ah,cC,f,d,bt];omega
   .exact out (n+1) ⟨a,fin _ a c (.inr (by grind))⟩ rfl (by simp) rfl aq
 rintro n ⟨a,m⟩;have k:=rest n a m;have j:rR b af (aa (n:Int))=strip b:=m▸rfl;have hi:((b.length:Int)<=8)↔b.length<=8:=by omega
 by_cases c1:b.length<=8
 .by_cases c2:iA (strip b)=b
  .by_cases c3:n=0
   .refine aO i [(21,ae),(29,ae),(32,ab)] rfl ?_ (AK.bq rfl ?_)
    .subst c3;simp only[ar,j,c2];grind
    .simp[k,c3]
   .refine aO i [(21,ae),(29,ae),(32,ae)] rfl ?_ (AK.bq rfl ?_)
    .simp[j,hi,c1,c2,c3,a]
    .simp[k,j,m,c1,c2,c3]
  .refine aO i [(21,ae),(29,ab),(32,ab)] rfl ?_ (AK.bq rfl ?_)
   .simp[j,hi,c1,c2,a]
   .simp[k,c2]
 .refine aO i [(21,ab),(29,ab),(32,ab)] rfl ?_ (AK.bq rfl ?_)
  .simp;omega
  .simp[k,c1]
abbrev tq:dv:=kF aS (λb=>Ae (fj b)) λ_=>[]
def yJ:dH X 113 tq:=.oz λb _=>Cs b
def Hy(k:Int)(x:db)(c:cD k=ab):Ev X 90 [dI k,WH x] [] (dB (right k x)) []:=by
 refine Ev.bQ Tryz.func90 rfl λd=>?_;have b:bR X [(113,tq),(114,As)]:=.cons yJ (.cons Ap .nil);cases a:fj x.2 with
 |none=>exact aO b [(14,ae)] rfl (by simp[a]) (AK.bq rfl (by simp[right,a]))
 |some p=>exact aO b [(14,ab)] rfl (by simp[a,c,wD a]) (AK.bq rfl (by simp[right,a]))
abbrev Au:dv:=nt aI R5 (λk x=>dB (right k x)) λk _=>[cD k=ab]
def Gh:dH X 90 Au:=.qn λk x h=>Hy k x h
def NP(k:Int):Ev X 65 [dI k] [] (dB (cD k)) []:=by refine Ev.bQ Tryz.func65 rfl λb=>?_;have a:bR X [(63,Ao)]:=.cons B8 .nil;exact bX a rfl aq (AK.bq rfl (by simp[cD]))
abbrev Ct:dv:=kF aI (λk=>dB (cD k)) λ_=>[]
def Gi:dH X 65 Ct:=.oz λk _=>NP k
abbrev NR(p:bo):bm:=.cells 39 [.c (.int .i64 p.1),.c (sP p)]
def Cu(k:Int)(p:bo)(n:Int):Ev X 154 [dI k,qo p,dI n] [] (Ae (dx k p n)) []:=by
 refine Ev.bQ Tryz.func154 rfl λo=>?_;have a:bR X [(65,Ct),(90,Au),(113,tq)]:=.cons Gi (.cons Gh (.cons yJ .nil));cases d:cD k with
 |false =>
  refine aO a [(11,ab)] rfl (by simp[d]) (AK.bq rfl ?_);have:dx k p n=af:=by unfold dx chunk;grind
  simp[this]
 |true =>
 have m:=o.KJ 1 rfl 1 rfl;refine aO a [(11,ae)] rfl (by simp[d]) ?_;refine AK.bS 1 (λi=>i<=p.2.length/\p.2.find? (λx=>x.1==n)=(p.2.drop i).find? (λx=>x.1==n)) (λi:Nat=>[(0,dI k),(4,.e (.one (.ptr 0 0))),(2,dI n),(8,dI i)]) (λ_=>[NR p]) (λi=>p.2.length-i) 0 rfl (by simp) rfl (by simp) rfl ⟨by omega,rfl⟩ ?_;rintro i ⟨hi,c⟩;by_cases h:i<p.2.length
 .have j:p.2.getD i ef.b8=fI p i:=rfl;have l:p.2.drop i=fI p i::p.2.drop (i+1):=by grind[List.drop_eq_getElem_cons]
  rw[l,List.find?_cons]at c;by_cases f:(fI p i).1=n
  .rw[show((fI p i).1==n)=ab by grind]at c;cases g:right k (fI p i)with
   |false =>
    have b:right k (n,(fI p i).2)=ae:=f▸g;refine aO a [(16,ab),(26,ab),(34,ab)] rfl ?_ (AK.eP (cg.zero rfl ?_))
    .simp[-ah,j,f,b,d,h]
    .have e:dx k p n=af:=by have:=qS (k:=k) (x:=fI p i) d;rw[g]at this;simp only[dx,c];simpa using this
     simp[e]
   |true =>
    have b:right k (n,(fI p i).2)=ab:=f▸g;refine aO a [(16,ab),(26,ab),(34,ae)] rfl ?_ (AK.eP (cg.zero rfl ?_))
    .simp[-ah,j,f,b,d,h]
    .have e:dx k p n=fj (fI p i).2:=by simp only[dx,c,chunk];unfold right at g;grind
     simp[-ah,e,j]
  .rw[show((fI p i).1==n)=ae by grind]at c;refine aO a [(16,ab),(26,ae)] rfl ?_ (AK.aQ (i+1) rfl (by simp) (by simp) ⟨h,c⟩ (by omega));simp[-ah,j,f,bt,h];omega
 .obtain rfl:i=p.2.length:=by omega
  refine aO a [(16,ae)] rfl (by simp) (AK.leaveD rfl rfl ?_);refine bX a rfl aq (AK.bq rfl ?_);simp[dx,c]
abbrev Gj:dv:=Dj aI (BV ef) aI (λk p n=>Ae (dx k p n)) λ_ _ _=>[]
def NS:dH X 154 Gj:=.Ih λk p n _=>Cu k p n
theorem pn(k:Int)(p:bo):jc k p=(decide (1<=p.1/\p.1<=99)&&cD k&&decide (1<=p.2.length/\p.2.length<=4)&&(bg p.2.length).all (iB k p)):=by grind[te]
def Hz{k:Int}{p:bo}(a:i≠0):iB k p i=(right k (fI p i)&&decide ((fI p (i-1)).1<(fI p i).1)):=by unfold iB;grind
def EA(k:Int)(p:bo):Ev X 62 [dI k,qo p] [] (dB (jc k p)) []:=by
 refine Ev.bQ Tryz.func62 rfl λn=>?_;have b:bR X [(63,Ao),(65,Ct),(90,Au)]:=.cons B8 (.cons Gi (.cons Gh .nil));have m:=n.KJ 1 rfl 1 rfl;rw[pn];by_cases c1:1<=p.1/\p.1<=99
 rotate_left
 .exact aO b [(10,ab),(14,ab),(21,ab)] rfl (by simp;omega) (AK.bq rfl (by simp[gH c1]))
 cases c:cD k
 .exact aO b [(10,ae),(14,ab),(21,ab)] rfl (by simp[c,c1]) (AK.bq rfl)
 by_cases c3:1<=p.2.length/\p.2.length<=4
 rotate_left
 .exact aO b [(10,ae),(14,ae),(21,ab)] rfl (by simp[c,c1];omega) (AK.bq rfl (by simp[gH c3]))
 refine aO b [(10,ae),(14,ae),(21,ae)] rfl (by simp[c,c1];omega) ?_;rw[dc c1,dc c3,eL,eL,eL];refine AK.bS 1 (λi=>i<=p.2.length/\∀j,j<i->iB k p j=ab) (λi:Nat=>[(0,dI k),(3,.e (.one (.ptr 0 0))),(5,dI i)]) (λ_=>[NR p]) (λi=>p.2.length-i) 0 rfl (by simp) rfl (by simp) rfl ⟨by omega,by omega⟩ ?_;rintro i ⟨hi,a⟩;by_cases h:i<p.2.length
 .have g:p.2.getD i ef.b8=fI p i:=rfl;cases d:right k (fI p i)with
  |false =>
   refine aO b [(26,ab),(37,ab),(56,ab)] rfl ?_ (AK.eP (cg.zero rfl ?_))
   .simp[-ah,g,d,c,h]
   .rw[ft h (by simp only[iB,d,pD])];simp
  |true =>
   by_cases l:i=0
   .subst l;refine aO b [(26,ab),(37,ae),(40,ae),(56,ae)] rfl ?_ (AK.aQ 1 rfl (by simp) (by simp) ⟨h,gb a (by simp only[iB,d,eL];rfl)⟩ (by omega));simp[-ah,g,d,c,h,bt]
   have f:p.2.getD (i-1) ef.b8=fI p (i-1):=rfl;have q:=Hz (k:=k) (p:=p) l;by_cases o:(fI p (i-1)).1<(fI p i).1
   .refine aO b [(26,ab),(37,ae),(40,ab),(54,ae),(56,ae)] rfl ?_ (AK.aQ (i+1) rfl (by simp) (by simp) ⟨h,gb a (by grind)⟩ (by omega));simp[-ah,g,f,d,c,h,o,bt];omega
   .refine aO b [(26,ab),(37,ae),(40,ab),(54,ab),(56,ab)] rfl ?_ (AK.eP (cg.zero rfl ?_))
    .simp[-ah,g,f,d,c,h,bt];omega
    .rw[ft h (by grind)];simp
 .obtain rfl:i=p.2.length:=by omega
  refine aO b [(26,ae)] rfl (by simp) (AK.leaveD rfl rfl ?_);exact bX b rfl aq (AK.bq rfl (by simp[cK.2 a]))
abbrev Cv:dv:=nt aI (BV ef) (λk p=>dB (jc k p)) λ_ _=>[]
def KL:dH X 62 Cv:=.qn λk p _=>EA k p
def iy{l:List α}{d:α}(h:i<l.length):l.getD i d∈l:=by grind
def NT{l:List Int}{n:Int}:l.contains n=!(bg l.length).all λi=>!(l.getD i 0==n):=by rw[nF,hI,<-oG,cK,y6];grind[List.mem_iff_getElem]
def NU(l:List Int)(n:Int):Ev X 29 [cI.sl l,dI n] [] (dB (l.contains n)) []:=by
 refine Ev.bQ Tryz.func29 rfl λe=>?_;have b:=e.sl 0 rfl;refine bA rfl aq ?_;rw[NT];refine AK.jf (λi=>i<=l.length/\∀j,j<i->(!(l.getD j 0==n))=ab) (λi:Nat=>[(0,cI.sl l),(1,dI n),(5,dI i)]) (λ_=>[]) (λi=>l.length-i) 0 rfl (by simp) rfl aq ⟨by omega,by omega⟩ ?_;rintro i ⟨hi,a⟩;by_cases h:i<l.length
 .have c:l.getD i cI.b8=l.getD i 0:=rfl;by_cases d:l.getD i 0=n
  .refine aY [(9,ab),(17,ab)] rfl ?_ (AK.gO (cg.zero rfl ?_))
   .simp[-ah,c,d,h]
   .rw[ft h (by grind)];simp
  .refine aY [(9,ab),(17,ae)] rfl ?_ (AK.fH (i+1) rfl (by simp) rfl aq ⟨h,gb a (by grind)⟩ (by omega));simp[-ah,c,d,h,bt];omega
 .obtain rfl:i=l.length:=by omega
  refine aY [(9,ae)] rfl (by simp) (AK.leave rfl rfl ?_);exact bA rfl aq (AK.bq rfl (by rw[cK.2 a];simp))
abbrev Cw:dv:=nt (aL cI) aI (λl n=>dB (l.contains n)) λ_ _=>[]
def Gk:dH X 29 Cw:=.qn λl n _=>NU l n
def EB(k:Int)(ps:List bo)(n:Int):Ev X 115 [dI k,cP.sl ps,dI n] [] (Ae (di k ps n)) []:=by
 refine Ev.bQ Tryz.func115 rfl λg=>?_;have f:=g.sl 1 rfl;have d:bR X [(154,Gj)]:=.cons NS .nil;refine bX d rfl aq ?_;refine AK.jf (λi=>i<=ps.length/\di k ps n=di k (ps.drop i) n) (λi:Nat=>[(0,dI k),(1,cP.sl ps),(2,dI n),(8,dI i)]) (λ_=>[]) (λi=>ps.length-i) 0 rfl (by simp) rfl aq ⟨by omega,rfl⟩ ?_;rintro i ⟨hi,a⟩;by_cases h:i<ps.length
 .have c:ps.drop i=ps.getD i (0,[])::ps.drop (i+1):=by grind[List.drop_eq_getElem_cons]
  have e:((ps.getD i cP.b8).1,ef.list (ps.getD i cP.b8).2.length (ef.fn (ps.getD i cP.b8).2))=ps.getD i (0,[]):=by rw[ef.list_fn];rfl
  rw[c,show di k (ps.getD i (0,[])::ps.drop (i+1)) n=_ from List.findSome?_cons]at a;cases b:dx k (ps.getD i (0,[])) n with
  |some q =>
   rw[b]at a;refine aO d [(14,ab),(27,ab)] rfl ?_ (AK.gO (cg.zero rfl ?_))
   .simp[-ah,e,b,h,ef.au]
   .simp[-ah,e,b,a]
  |none =>
   rw[b]at a;refine aO d [(14,ab),(27,ae)] rfl ?_ (AK.fH (i+1) rfl (by simp) rfl aq ⟨h,a⟩ (by omega));simp[-ah,e,b,h,bt,ef.au];omega
 .obtain rfl:i=ps.length:=by omega
  refine aY [(14,ae)] rfl (by simp) (AK.leave rfl rfl ?_);exact bA rfl aq (AK.bq rfl (by rw[a,pA];simp[di]))
abbrev Cy:dv:=Dj aI (aL cP) aI (λk ps n=>Ae (di k ps n)) λ_ _ _=>[]
def KM:dH X 115 Cy:=.Ih λk ps n _=>EB k ps n
def KN(a b:List Bs):Ev X 155 [cS.sl a,cS.sl b] [] (dB (a==b)) []:=by
 refine Ev.bQ Tryz.func155 rfl λk=>?_;have d:=k.sl 0 rfl;by_cases g:a.length=b.length
 rotate_left
 .have:(a==b)=ae:=dG.2 (by grind);exact aY [(10,ab)] rfl (by simp;omega) (AK.bq rfl (by simp[this]))
 refine aY [(10,ae)] rfl (by simp;omega) ?_;refine AK.jf (λi=>i<=a.length/\∀j,j<i->a.getD j []=b.getD j []) (λi:Nat=>[(0,cS.sl a),(1,cS.sl b),(5,dI i)]) (λ_=>[]) (λi=>a.length-i) 0 rfl (by simp) rfl aq ⟨by omega,by omega⟩ ?_;rintro i ⟨hi,f⟩;by_cases h:i<a.length
 .have e:∀l:List Bs,l.getD i cS.b8=l.getD i []:=λ_=>rfl;by_cases c:a.getD i []=b.getD i []
  .refine aY [(14,ab),(25,ae)] rfl ?_ (AK.fH (i+1) rfl (by simp) rfl aq ⟨h,λj n=>?_⟩ (by omega))
   .simp[-ah,e,c,bt];omega
   grind
  .refine aY [(14,ab),(25,ab)] rfl ?_ (AK.gO (cg.zero rfl ?_))
   .simp[-ah,e,c];omega
   .have:(a==b)=ae:=dG.2 (by grind);simp[this]
 .obtain rfl:i=a.length:=by omega
  have:a=b:=ry g λj c m=>by grind
  refine aY [(14,ae)] rfl (by simp) (AK.leave rfl rfl ?_);exact bA rfl aq (AK.bq rfl (by simp[this]))
def Rc:dH X 155 Nm:=.qn λa b _=>KN a b
def ue(t:Bs):∀k f p,p∈fp t k f->p.length<=8
 |0,_,p,h=>by simp[fp]at h
 |k+1,f,p,h=>by
  simp only[fp]at h;split at h
  .rename_i a;rcases eY.1 h with rfl|h
   .grind [m8]
   .exact ue t k _ p h
  grind
def Av{l:List Bs}{p:Bs}(h:p∈l)(b:8<p.length):fZ l=af:=by unfold fZ;rw[aW];intro a;simp only[bJ,eG]at a;have:=ue l.flatten l.flatten.length 0 p (by rw[show fp l.flatten l.flatten.length 0=l from a.2];exact h);omega
def uD(l:List Bs)(i:Nat):(l.take i).flatten.length<=l.flatten.length:=by grind[List.take_append_drop]
def EC{l:List Bs}(h:40<(l.take i).flatten.length):fZ l=af:=by have:=uD l i;unfold fZ;rw[aW];intro a;simp only[bJ,dN,bh]at a;omega
def KO(l:List Bs):Ev X 116 [cS.sl l] [] (Ae (fZ l)) []:=by
 refine Ev.bQ Tryz.func116 rfl λm=>?_;have g:=m.sl 0 rfl;have a:bR X [(107,NV),(143,Ga),(155,Nm)]:=.cons t107 (.cons Km (.cons Rc .nil));refine bX a rfl aq ?_;refine AK.jf (λi=>i<=l.length/\(l.take i).flatten.length<=48) (λi:Nat=>[(0,cS.sl l),(4,dS (l.take i).flatten),(5,dI i)]) (λ_=>[]) (λi=>l.length-i) 0 rfl (by simp) rfl aq ⟨by omega,by simp⟩ ?_;rintro i ⟨hi,f⟩;by_cases h:i<l.length
 .have e:l.getD i cS.b8=l.getD i []:=rfl;have k:(l.take (i+1)).flatten=(l.take i).flatten++l.getD i []:=by grind[bx]
  by_cases b:(l.getD i []).length<=8
  .by_cases c:(l.take i).flatten.length<=40
   .refine aO a [(9,ab),(18,ae),(22,ae)] rfl ?_ (AK.fH (i+1) rfl ?_ rfl aq ⟨h,by grind⟩ (by omega))
    .simp[-ah,-List.length_flatten,e,bt];omega
    .simp only[ar.cat,ar,k,aC,aB];grind[cq.same]
   .refine aO a [(9,ab),(18,ae),(22,ab)] rfl ?_ (AK.gO (cg.zero rfl ?_))
    .simp[-ah,-List.length_flatten,e];omega
    .simp[EC (l:=l) (i:=i) (by omega)]
  .refine aO a [(9,ab),(18,ab),(22,ab)] rfl ?_ (AK.gO (cg.zero rfl ?_))
   .simp[-ah,e];omega
   .simp[ar,ar.cat,Av (iy (d:=[]) h) (by omega)]
 .obtain rfl:i=l.length:=by omega
  rw[cB]at f⊢;refine aO a [(9,ae)] rfl (by simp) (AK.leave rfl rfl ?_);have el:=cS.list_fn l;cases b:dN l.flatten with
  |false=>exact aO a [(32,ab),(38,ab)] rfl (by simp[b]) (AK.bq rfl (by simp[fZ,b]))
  |true =>
   have j:b9 l.flatten=ab:=by simp only[dN,bJ]at b;exact b.2
   cases c:(pieces l.flatten==l)with
   |false =>
    refine aO a [(32,ae),(38,ab)] rfl ?_ (AK.bq rfl (by simp[fZ,c]));simp[-List.length_flatten,b,j,el,cS.list_fn,cS.au,by simpa using c];omega
   |true =>
    refine aO a [(32,ae),(38,ae)] rfl ?_ (AK.bq rfl (by simp[fZ,b,c]));simp[-List.length_flatten,b,j,el,cS.list_fn,cS.au,by simpa using c];omega
abbrev KP:dv:=kF (aL cS) (λl=>Ae (fZ l)) λ_=>[]
def Re:dH X 116 KP:=.oz λl _=>KO l
abbrev U8(s:cW):bm:=.cells 68 [.c (.int .i64 s.1),.c (.sl ae 2 s.2.length (cL.fn s.2))]
abbrev KQ(k:Int)(ps:List bo)(ns:List Int):List Bs:=ns.map λn=>(di k ps n).getD []
def NW{k:Int}{ps:List bo}{ns:List Int}(h:j<ns.length):KQ k ps (ns.take (j+1))=KQ k ps (ns.take j)++[(di k ps (ns.getD j 0)).getD []]:=by grind[bx]
def Cz{k:Int}{ps:List bo}{ns:List Int}(h:j<ns.length)(a:di k ps (ns.getD j 0)=af):dJ k ps ns=af:=by unfold dJ;rw[aW];grind
def Aw{k:Int}{ps:List bo}{ns:List Int}(h:∀j,j<ns.length->(di k ps (ns.getD j 0)).isSome=ab):dJ k ps ns=aa (KQ k ps ns):=by unfold dJ;rw[bc];grind[List.mem_iff_getElem]
def Ax(k:Int)(s:cW)(ps:List bo)(I:s.2.length<=4000000)(G:∀x∈s.2,x.2.length<=4000000):
  Ev X 91 [dI k,F4 s,cP.sl ps] [] (Nn ((cj k s ps).getD []) (cj k s ps).isSome) []:=by
 refine Ev.bQ Tryz.func91 rfl λK=>?_;have a:bR X [(65,Ct),(115,Cy),(116,KP),(85,R8)]:=.cons Gi (.cons KM (.cons Re (.cons t85 .nil)));cases v:cD k with
 |false =>
  refine aO a [(19,ab)] rfl ?_ (AK.bq rfl ?_)
  .simp[v]
  .simp[cj,v]
 |true =>
 refine aO a [(19,ae),(1000004,ab)] rfl (by simp[v]) ?_;refine AK.ik 8 115 2 rfl rfl ?_;refine bX a rfl aq ?_;refine AK.bS 2 (λi=>i<=s.2.length/\∀j,j<i->(fileOf k ps (s.2.getD j ([],[]))).isSome=ab) (λi:Nat=>[(0,dI k),(2,cP.sl ps),(4,.e (.one (.ptr 0 0))),(8,.e (.one (.vec 1 2 (c8 k ps (s.2.take i)).length (cF.fn (c8 k ps (s.2.take i)))))),(9,dI i)]) (λi=>[U8 s,.vec 115 2 (c8 k ps (s.2.take i)).length (cF.fn (c8 k ps (s.2.take i)))]) (λi=>s.2.length-i) 0 rfl (by simp[c8]) rfl (by simp[c8]) rfl ⟨by omega,by omega⟩ ?_;rintro i ⟨hi,B⟩;by_cases h:i<s.2.length
 .have C:=G _ (iy (d:=([],[])) h);have f:=o5 (k:=k) (ps:=ps) h;have A:(c8 k ps (s.2.take i)).length=i:=by simp[c8];omega
  have c:s.2.getD (i:Int).toNat cL.b8=s.2.getD i ([],[]):=by grind
  have l:=o7 (k:=k) (ps:=ps) h;generalize E:s.2.getD i ([],[])=x at C f c l;generalize c8 k ps (s.2.take i)=fs at *;refine aO a [(25,ab),(1000008,ab)] rfl (by simp;omega) ?_;refine AK.ik 10 9 1 rfl rfl ?_;refine bX a rfl aq ?_;refine AK.bS 3 (λj=>j<=x.2.length/\∀q,q<j->(di k ps (x.2.getD q 0)).isSome=ab) (λj:Nat=>[(0,dI k),(2,cP.sl ps),(4,.e (.one (.ptr 0 0))),(8,.e (.one (.vec 1 2 fs.length (cF.fn fs)))),(9,dI i),(10,.e (.one (.vec 2 1 (KQ k ps (x.2.take j)).length (cS.fn (KQ k ps (x.2.take j)))))),(11,dI j)]) (λj=>[U8 s,.vec 115 2 fs.length (cF.fn fs),.vec 9 1 (KQ k ps (x.2.take j)).length (cS.fn (KQ k ps (x.2.take j)))]) (λj=>x.2.length-j) 0 rfl (by simp) rfl (by simp) rfl ⟨by omega,by omega⟩ ?_;rintro j ⟨J,z⟩;by_cases y:j<x.2.length
  .have b:x.2.getD (j:Int).toNat cI.b8=x.2.getD j 0:=by grind
   cases n:di k ps (x.2.getD j 0)with
   |none =>
    have e:fileOf k ps x=af:=by simp[fileOf,Cz y n]
    refine aO a [(37,ab),(56,ab)] rfl ?_ (AK.eP (AK.rX (cg.zero rfl ?_)))
    .simp only[ar,c,b,n,cP.list_fn,cP.au];grind
    .rw[l e];simp
   |some q =>
    have g:=NW (k:=k) (ps:=ps) y;rw[n]at g;have o:(KQ k ps (x.2.take j)).length=j:=by grind
    have p:=cS.cm (KQ k ps (x.2.take j)) q;refine aO a [(37,ab),(56,ae)] rfl ?_ (AK.aQ (j+1) rfl ?_ ?_ ⟨y,λr F=>?_⟩ (by omega))
    .simp only[ar,c,b,n,cP.list_fn,cP.au,o,bt,show i9.bytes=16 from rfl];grind
    .rw[g];simp only[ar.cat,ar,c,b,n,cP.list_fn,bT,eb,aC,aB];and_intros<;>first|exact cq.same|exact p|rfl|omega
    .rw[g];simp only[ar.cat,ar,c,b,n,cP.list_fn,bT,eb,aC,aB];and_intros<;>first|exact cq.same|exact p|rfl|omega
    grind
  .obtain rfl:j=x.2.length:=by omega
   have u:=Aw z;rw[cB];have o:(KQ k ps x.2).length=x.2.length:=by simp
   refine aO a [(37,ae)] rfl (by simp only[ar,c];simp[h]) (AK.leaveD rfl rfl ?_);cases m:fZ (KQ k ps x.2)with
   |none =>
    have e:fileOf k ps x=af:=by simp[fileOf,u,m]
    refine aO a [(68,ab)] rfl ?_ (AK.eP (cg.zero rfl ?_))
    .simp only[ar,cS.list_fn,cS.au,m];simp
    .rw[l e];simp
   |some t =>
    have e:fileOf k ps x=aa (x.1,t):=by simp[fileOf,u,m]
    rw[e]at f;have D:=cF.cm fs (x.1,t);refine aO a [(68,ae)] rfl ?_ (AK.aQ (i+1) rfl ?_ ?_ ⟨h,λr F=>?_⟩ (by omega))
    .simp only[ar,c,cS.list_fn,cS.au,m,A,bt,show i115.bytes=32 from rfl];grind
    .rw[f];simp only[ar.cat,ar,c,cS.list_fn,m,gx,bT,eb,aC,aB];and_intros<;>first|exact cq.same|exact D|rfl|omega
    .rw[f];simp only[ar.cat,ar,c,cS.list_fn,m,gx,bT,eb,aC,aB];and_intros<;>first|exact cq.same|exact D|rfl|omega
    grind
 .obtain rfl:i=s.2.length:=by omega
  rw[cB];have H:s.2.all (λx=>(fileOf k ps x).isSome)=ab:=List.all_eq_true.2 λx C=>by grind[List.mem_iff_getElem]
  refine aO a [(25,ae)] rfl (by simp) (AK.leaveD rfl rfl ?_);cases w:cE (c8 k ps s.2)with
  |false =>
   refine aO a [(83,ab)] rfl ?_ (AK.bq rfl ?_)
   .simp[cF.list_fn,cF.au,w]
   .simp[cj,w]
  |true =>
   refine aO a [(83,ae)] rfl ?_ (AK.bq rfl ?_)
   .simp[cF.list_fn,cF.au,w]
   .simp[cj,w,v,H]
abbrev xb:dv:=Dj aI (BV cL) (aL cP) (λk s ps=>Nn ((cj k s ps).getD []) (cj k s ps).isSome) λ_ s _=>[s.2.length<=4000000,∀x∈s.2,x.2.length<=4000000]
def ED:dH X 91 xb:=.Ih λk s ps h=>Ax k s ps h.1 h.2
abbrev sj:=Int×Int
def gX(h:sj):Bool:=decide (1<=h.1/\h.1<=2)&&decide (1<=h.2/\h.2<=20)
def oo(l:List sj):Bool:=(bg l.length).all (λi=>gX (l.getD i (0,0)))&&decide (l.length<=9)
abbrev W4(h:sj):D:=.e (.agg [.c (.int .i64 h.1),.c (.int .i64 h.2)])
def HA(h:sj):Ev X 92 [W4 h] [] (dB (gX h)) []:=by
 refine Ev.bQ Tryz.func92 rfl λb=>?_;have a:bR X [(63,Ao)]:=.cons B8 .nil;by_cases c:1<=h.1/\h.1<=2
 .exact aO a [(6,ab)] rfl (by simp[c]) (AK.bq rfl (by simp[gX,c]))
 .exact aO a [(6,ae)] rfl (by simp;omega) (AK.bq rfl (by simp only[ar,gX,gH c];simp))
def HB(l:List sj):Ev X 66 [cH.sl l] [] (dB (oo l)) []:=by
 refine Ev.bQ Tryz.func66 rfl λf=>?_;have d:=f.sl 0 rfl;have b:bR X [(92,kF U4 (λh=>dB (gX h)) λ_=>[])]:=.cons (.oz λh _=>HA h) .nil;refine bX b rfl aq ?_;unfold oo;refine AK.jf (λi=>i<=l.length/\∀j,j<i->gX (l.getD j (0,0))=ab) (λi:Nat=>[(0,cH.sl l),(3,dI i)]) (λ_=>[]) (λi=>l.length-i) 0 rfl (by simp) rfl aq ⟨by omega,by omega⟩ ?_;rintro i ⟨hi,a⟩;by_cases h:i<l.length
 .have e:l.getD i cH.b8=l.getD i (0,0):=rfl;cases c:gX (l.getD i (0,0))with
  |false =>
   refine aO b [(7,ab),(15,ab)] rfl ?_ (AK.gO (cg.zero rfl ?_))
   .simp[-ah,e,c,h]
   .rw[ft h c];simp
  |true =>
   refine aO b [(7,ab),(15,ae)] rfl ?_ (AK.fH (i+1) rfl (by simp) rfl aq ⟨h,gb a c⟩ (by omega));simp[-ah,e,c,h,bt];omega
 .obtain rfl:i=l.length:=by omega
  refine aO b [(7,ae)] rfl (by simp) (AK.leave rfl rfl ?_);exact bX b rfl aq (AK.bq rfl (by rw[cK.2 a];simp;omega))
abbrev vc:dv:=kF (aL cH) (λl=>dB (oo l)) λ_=>[]
def NX:dH X 66 vc:=.oz λl _=>HB l
def bP(ps:List bo):List Int:=ps.flatMap λp=>p.2.map (·.1)
def xc(f:α->Int)(d:α)(l:List α)(i:Nat):Bool:=i==0||decide (f (l.getD (i-1) d)<f (l.getD i d))
def lS(k:Int)(ps:List bo)(i:Nat):Bool:=jc k (ps.getD i (0,[]))&&xc (·.1) (0,[]) ps i
def jJ(k:Int)(s:bw)(i:Nat):Bool:=decide (1<=(s.2.1.getD i (0,[])).1/\(s.2.1.getD i (0,[])).1<=20)&&xc (·.1) (0,[]) s.2.1 i&&(cj k (s.2.1.getD i (0,[])) s.1).isSome
def fJ(k:Int)(s:bw):Bool:=(bg s.1.length).all (lS k s.1)&&decide (bP s.1).Nodup&&(bg s.2.1.length).all (jJ k s)&&cD k&&oo s.2.2&&decide (s.1.length<=20)
def xd{ps:List bo}(h:i<ps.length):bP (ps.take (i+1))=bP (ps.take i)++(ps.getD i (0,[])).2.map (·.1):=by rw[bx h (0,[])];simp[bP]
def HC{ps:List bo}(h:¬(bP (ps.take i)).Nodup):¬(bP ps).Nodup:=λa=>h (by
 have:bP ps=bP (ps.take i)++bP (ps.drop i):=by unfold bP;grind[List.take_append_drop]
 grind)
abbrev L5(s:bw):bm:=.cells 27 [.c (.sl ae 2 s.1.length (cP.fn s.1)),.c (.sl ae 2 s.2.1.length (cX.fn s.2.1)),.c (.sl ae 2 s.2.2.length (cH.fn s.2.2))]
def KR(k:Int)(s:bw)(x:cW)(c:x.2.length<=4000000)(b:∀y∈x.2,y.2.length<=4000000):Ev X 64 [dI k,l4 s,F4 x] [] (dB (cj k x s.1).isSome) []:=by
 refine Ev.bQ Tryz.func64 rfl λd=>?_;have a:bR X [(91,xb)]:=.cons ED .nil;have e:(x.1,cL.list x.2.length (cL.fn x.2))=x:=by rw[cL.list_fn]
 refine bX a rfl ?_ (AK.bq rfl ?_)
 .simp only[ar,cL.list_fn,cL.au,cP.au,c,aC,aB];exact b
 .simp[cL.list_fn,cP.list_fn]
abbrev KS:dv:=Dj aI No (BV cL) (λk s x=>dB (cj k x s.1).isSome) λ_ _ x=>[x.2.length<=4000000,∀y∈x.2,y.2.length<=4000000]
def Rf:dH X 64 KS:=.Ih λk s x h=>KR k s x h.1 h.2
def mm{f:α->Int}{d:α}{l:List α}(h:i≠0):xc f d l i=decide (f (l.getD (i-1) d)<f (l.getD i d)):=by unfold xc;grind
def CB(k:Int)(s:bw)(L:j0 s)(Q:s.1.length<=4000000)(O:s.2.1.length<=4000000):Ev X 30 [dI k,l4 s] [] (dB (fJ k s)) []:=by
 refine Ev.bQ Tryz.func30 rfl λS=>?_;have c:bR X [(62,Cv),(29,Cw),(63,Ao),(64,KS),(65,Ct),(66,vc)]:=.cons KL (.cons Gk (.cons B8 (.cons Rf (.cons Gi (.cons NX .nil)))));refine aO c [(1000002,ab)] rfl aq ?_;refine AK.ik 5 3 1 rfl rfl ?_;refine bX c rfl aq ?_;unfold fJ;refine AK.bS 2 (λi=>i<=s.1.length/\(∀j,j<i->lS k s.1 j=ab)/\(bP (s.1.take i)).Nodup/\(bP (s.1.take i)).length<=4*i) (λi:Nat=>[(0,dI k),(3,.e (.one (.ptr 0 0))),(5,.e (.one (.vec 1 1 (bP (s.1.take i)).length (cI.fn (bP (s.1.take i)))))),(6,dI i)]) (λi=>[L5 s,.vec 3 1 (bP (s.1.take i)).length (cI.fn (bP (s.1.take i)))]) (λi=>s.1.length-i) 0 rfl (by simp[bP]) rfl (by simp[bP]) rfl ⟨by omega,by omega,by simp[bP],by simp[bP]⟩ ?_;rintro i ⟨hi,g,y,N⟩;by_cases h:i<s.1.length
 .have x:=xd h;have H:=HC (ps:=s.1) (i:=i+1);have m:s.1.getD i cP.b8=s.1.getD i (0,[]):=rfl;have n:s.1.getD (i-1) cP.b8=s.1.getD (i-1) (0,[]):=rfl;have b:lS k s.1 i=(jc k (s.1.getD i (0,[]))&&xc (·.1) (0,[]) s.1 i):=rfl;have C:=mm (f:=λp:bo=>p.1) (d:=(0,[])) (l:=s.1) (i:=i);generalize E:s.1.getD i (0,[])=p at *;generalize s.1.getD (i-1) (0,[])=p' at *;cases t:jc k p with
  |false =>
   rw[t,pD]at b;refine aO c [(14,ab),(25,ab),(44,ab)] rfl ?_ (AK.eP (cg.zero rfl ?_))
   .simp[-ah,m,t,ef.list_fn,ef.au,h]
   .rw[ft h b];simp
  |true =>
   have R:p.2.length<=4:=by grind[pn]
   rw[t,eL]at b;cases u:xc (·.1) (0,[]) s.1 i with
   |false =>
    have r:i≠0:=by rintro rfl;cases u
    have B:¬p'.1<p.1:=by grind
    refine aO c [(14,ab),(25,ae),(28,ab),(42,ab),(44,ab)] rfl ?_ (AK.eP (cg.zero rfl ?_))
    .simp[-ah,m,n,t,ef.list_fn,ef.au,h,bt];omega
    .rw[ft h (b.trans u)];simp
   |true =>
   rw[u]at b;apply AK.join [(0,dI k),(3,.e (.one (.ptr 0 0))),(5,.e (.one (.vec 1 1 (bP (s.1.take i)).length (cI.fn (bP (s.1.take i)))))),(6,dI i),(7,dI 0)] [L5 s,.vec 3 1 (bP (s.1.take i)).length (cI.fn (bP (s.1.take i)))]
   .intro z;by_cases r:i=0
    .subst r;refine aO c [(14,ab),(25,ae),(28,ae),(44,ae)] rfl ?_ (z _ _ rfl ?_)
     .simp[-ah,m,t,ef.list_fn,ef.au,h]
     .simp
    .have B:p'.1<p.1:=by grind
     refine aO c [(14,ab),(25,ae),(28,ab),(42,ae),(44,ae)] rfl ?_ (z _ _ rfl ?_)
     .simp[-ah,m,n,t,ef.list_fn,ef.au,h,bt];omega
     .simp
   generalize bP (s.1.take i)=ns at *;refine AK.bS 2 (λj=>j<=p.2.length/\(ns++(p.2.take j).map (·.1)).Nodup) (λj:Nat=>[(0,dI k),(3,.e (.one (.ptr 0 0))),(5,.e (.one (.vec 1 1 (ns++(p.2.take j).map (·.1)).length (cI.fn (ns++(p.2.take j).map (·.1)))))),(6,dI i),(7,dI j)]) (λj=>[L5 s,.vec 3 1 (ns++(p.2.take j).map (·.1)).length (cI.fn (ns++(p.2.take j).map (·.1)))]) (λj=>p.2.length-j) 0 rfl (by simp) rfl (by simp) rfl ⟨by omega,by grind⟩ ?_;rintro j ⟨P,F⟩;by_cases o:j<p.2.length
   .have A:p.2.getD j ef.b8=fI p j:=rfl;have w:ns++(p.2.take (j+1)).map (·.1)=(ns++(p.2.take j).map (·.1))++[(fI p j).1]:=by grind[bx]
    have v:(ns++(p.2.take j).map (·.1)).length=ns.length+j:=by grind
    generalize ns++(p.2.take j).map (·.1)=a at *;cases K:a.contains (fI p j).1 with
    |true =>
     refine aO c [(53,ab),(67,ab)] rfl ?_ (AK.eP (AK.rX (cg.zero rfl ?_)))
     .simp[-ah,-List.contains_eq_mem,m,A,h,o,K,cI.list_fn,cI.au]
     .have M:¬(bP s.1).Nodup:=H (by
       have e:ns++p.2.map (·.1)=(ns++(p.2.take (j+1)).map (·.1))++(p.2.drop (j+1)).map (·.1):=by grind[List.take_append_drop]
       grind)
      simp[M]
    |false =>
     have J:=cI.cm a (fI p j).1;have G:cI.list (ns.length+j) (cI.fn a)=a:=by rw[<-v];exact cI.list_fn a
     refine aO c [(53,ab),(67,ae)] rfl ?_ (AK.aQ (j+1) rfl ?_ ?_ ⟨o,?_⟩ (by omega))
     .simp[-ah,-List.contains_eq_mem,m,A,h,o,K,cI.list_fn,cI.au,v,G,bt,show i3.bytes=8 from rfl];omega
     .rw[w];simp only[ar.cat,ar,bD,m,A,bT,eb,aC,aB];and_intros<;>first|exact cq.same|exact J|rfl|omega
     .rw[w];simp only[ar.cat,ar,bD,m,A,bT,eb,aC,aB];and_intros<;>first|exact cq.same|exact J|rfl|omega
     grind
   .obtain rfl:j=p.2.length:=by omega
    rw[cB]at F⊢;refine aO c [(53,ae)] rfl ?_ (AK.leaveD rfl rfl ?_)
    .simp[-ah,m,h]
    refine bX c rfl ?_ (AK.aQ (i+1) rfl ?_ ?_ ⟨h,gb g b,by grind,by grind⟩ (by omega))
    .simp[bt];omega
    .rw[x];simp
    .rw[x];simp
 obtain rfl:i=s.1.length:=by omega
 rw[cB]at y⊢;refine aO c [(14,ae)] rfl (by simp) (AK.leaveD rfl rfl ?_);refine bX c rfl aq ?_;rw[cK.2 g,dc y,eL,eL];generalize bP s.1=ns;refine AK.bS 2 (λi=>i<=s.2.1.length/\(∀j,j<i->jJ k s j=ab)) (λi:Nat=>[(0,dI k),(3,.e (.one (.ptr 0 0))),(8,dI i)]) (λ_=>[L5 s,.vec 3 1 ns.length (cI.fn ns)]) (λi=>s.2.1.length-i) 0 rfl (by simp) rfl (by simp) rfl ⟨by omega,by omega⟩ ?_;rintro i ⟨hi,g⟩;by_cases h:i<s.2.1.length
 .have m:s.2.1.getD i cX.b8=s.2.1.getD i (0,[]):=rfl;have n:s.2.1.getD (i-1) cX.b8=s.2.1.getD (i-1) (0,[]):=rfl;have q:=L _ (iy (d:=(0,[])) h);have b:jJ k s i=(decide (1<=(s.2.1.getD i (0,[])).1/\(s.2.1.getD i (0,[])).1<=20)&&xc (·.1) (0,[]) s.2.1 i&&(cj k (s.2.1.getD i (0,[])) s.1).isSome):=rfl;have C:=mm (f:=λp:cW=>p.1) (d:=(0,[])) (l:=s.2.1) (i:=i);generalize E:s.2.1.getD i (0,[])=p at *;generalize s.2.1.getD (i-1) (0,[])=p' at *;by_cases c1:1<=p.1/\p.1<=20
  rotate_left
  .refine aO c [(85,ab),(96,ab),(116,ab),(126,ab)] rfl ?_ (AK.eP (cg.zero rfl ?_))
   .simp[-ah,m,h];omega
   .rw[ft h (by grind)];simp
  cases u:xc (·.1) (0,[]) s.2.1 i with
  |false =>
   have r:i≠0:=by rintro rfl;cases u
   have B:¬p'.1<p.1:=by grind
   refine aO c [(85,ab),(96,ae),(99,ab),(113,ab),(116,ab),(126,ab)] rfl ?_ (AK.eP (cg.zero rfl ?_))
   .simp[-ah,m,n,h,c1,bt];omega
   .rw[ft h (by grind)];simp
  |true =>
   rw[dc c1,u,eL,eL]at b;cases o:(cj k p s.1).isSome with
   |false =>
    by_cases r:i=0
    .subst r;refine aO c [(85,ab),(96,ae),(99,ae),(116,ae),(126,ab)] rfl ?_ (AK.eP (cg.zero rfl ?_))
     .simp[-ah,m,h,c1,cL.list_fn,cL.au,cP.list_fn,cP.au,cX.au,cH.au,o,q.1];grind
     .rw[ft h (b.trans o)];simp
    .have B:p'.1<p.1:=by grind
     refine aO c [(85,ab),(96,ae),(99,ab),(113,ae),(116,ae),(126,ab)] rfl ?_ (AK.eP (cg.zero rfl ?_))
     .simp[-ah,m,n,h,c1,bt,cL.list_fn,cL.au,cP.list_fn,cP.au,cX.au,cH.au,o,q.1];and_intros<;>first|omega|grind
     .rw[ft h (b.trans o)];simp
   |true =>
    rw[o]at b;by_cases r:i=0
    .subst r;refine aO c [(85,ab),(96,ae),(99,ae),(116,ae),(126,ae)] rfl ?_ (AK.aQ 1 rfl (by simp) (by simp) ⟨h,gb g b⟩ (by omega));simp[-ah,m,h,c1,bt,cL.list_fn,cL.au,cP.list_fn,cP.au,cX.au,cH.au,o,q.1];grind
    .have B:p'.1<p.1:=by grind
     refine aO c [(85,ab),(96,ae),(99,ab),(113,ae),(116,ae),(126,ae)] rfl ?_ (AK.aQ (i+1) rfl (by simp) (by simp) ⟨h,gb g b⟩ (by omega));simp[-ah,m,n,h,c1,bt,cL.list_fn,cL.au,cP.list_fn,cP.au,cX.au,cH.au,o,q.1];and_intros<;>first|omega|grind
 obtain rfl:i=s.2.1.length:=by omega
 refine aO c [(85,ae)] rfl (by simp) (AK.leaveD rfl rfl ?_);rw[cK.2 g,eL];cases D:cD k
 .exact aO c [(129,ae),(134,ae)] rfl (by simp[D]) (AK.bq rfl)
 cases I:oo s.2.2
 .exact aO c [(129,ab),(134,ae)] rfl (by simp[D,I,cH.list_fn,cH.au]) (AK.bq rfl)
 exact aO c [(129,ab),(134,ab)] rfl (by simp[D,I,cH.list_fn,cH.au]) (AK.bq rfl (by simp;omega))
abbrev qb:dv:=nt aI No (λk s=>dB (fJ k s)) λ_ s=>[j0 s,s.1.length<=4000000,s.2.1.length<=4000000]
def tr:dH X 30 qb:=.qn λk s h=>CB k s h.1 h.2.1 h.2.2
def iC(n:Int)(a:List Int×Bool)(y:Int):List Int×Bool :=
 if a.2=ab then(if y=n then a else(a.1++[y],ab))else if n<=y then(if y=n then(a.1++[n],ab)else(a.1++[n,y],ab))else(a.1++[y],ae)
abbrev po(n:Int)(l:List Int)(i:Nat):List Int×Bool:=(l.take i).foldl (iC n) ([],ae)
def jK(l:List Int)(n:Int):List Int:=if(l.foldl (iC n) ([],ae)).2=ab then(l.foldl (iC n) ([],ae)).1 else(l.foldl (iC n) ([],ae)).1++[n]
def CC{n:Int}{l:List Int}(h:i<l.length):po n l (i+1)=iC n (po n l i) (l.getD i 0):=by grind[bx]
def xe(n:Int)(l:List Int):∀i,i<=l.length->(po n l i).1.length+(if(po n l i).2=ab then 0 else 1)<=i+1
 |0,_=>by simp[po]
 |i+1,h=>by have:=xe n l i (by omega);rw[CC (by omega)];generalize po n l i=a at *;obtain⟨a,b⟩:=a;unfold iC;grind
theorem KT(l:List Int)(n:Int):(jK l n).length<=l.length+1:=by
 have:=xe n l l.length (ba _);simp only[po,cB]at this;unfold jK;split at this<;>rename_i h
 .grind
 grind
def pe{α:Type}(c:iT α)(l:List α)(x y:α):cq (l.length+1+1) (cR (l.length+1) (cR l.length (c.fn l) λq=>[c.enc x].getD q []) λq=>[c.enc y].getD q []) (c.fn (l++[x,y])):=c.pe l x y
def KU(l:List Int)(n:Int)(r:l.length<=100000000):Ev X 61 [cI.sl l,dI n] [] (cI.sl (jK l n)) []:=by
 refine Ev.bQ Tryz.func61 rfl λq=>?_;refine aY [(1000002,ab)] rfl aq ?_;refine AK.ik 5 3 1 rfl rfl ?_;refine bA rfl aq ?_;refine AK.bS 1 (λi=>i<=l.length) (λi:Nat=>[(0,cI.sl l),(1,dI n),(5,.e (.one (.vec 0 1 (po n l i).1.length (cI.fn (po n l i).1)))),(6,dB (po n l i).2),(7,dI i)]) (λi=>[.vec 3 1 (po n l i).1.length (cI.fn (po n l i).1)]) (λi=>l.length-i) 0 rfl (by simp[po]) rfl (by simp[po]) rfl (by omega) ?_;intro i hi;have k:=xe n l i hi;by_cases h:i<l.length
 .have c:=CC (n:=n) h;have d:l.getD (i:Int).toNat cI.b8=l.getD i 0:=by rw[bD];rfl
  generalize l.getD i 0=y at *;generalize po n l i=a at *;obtain⟨a,b⟩:=a;have g:=λy=>cI.cm a y;have o:=λx y=>cI.pe a x y;have p:(a.length+1+1)*8<=140737488355328:=by grind
  have fin:∀a',po n l (i+1)=a'->True:=λ_ _=>trivial;have j:l.length-(i+1)<l.length-i:=by omega
  by_cases f:y=n
  .cases b with
   |true =>
    rw[show iC n (a,ab) y=(a,ab) by simp[iC,f]]at c;refine aY [(12,ab),(34,ae)] rfl ?_ (AK.aQ (i+1) rfl ?_ ?_ h j)
    .simp only[ar,d,f,bt];simp;omega
    .rw[c];simp
    .rw[c];simp
   |false =>
    rw[show iC n (a,ae) y=(a++[n],ab) by simp[iC,f]]at c;refine aY [(12,ab),(24,ab),(34,ae)] rfl ?_ (AK.aQ (i+1) rfl ?_ ?_ h j)
    .simp only[ar,d,f,bt,show i3.bytes=8 from rfl];simp;omega
    .rw[c];simp only[ar.cat,ar,bT,eb,aC,aB];and_intros<;>first|exact cq.same|exact g n|rfl|omega
    .rw[c];simp only[ar.cat,ar,bT,eb,aC,aB];and_intros<;>first|exact cq.same|exact g n|rfl|omega
  .cases b with
   |true =>
    rw[show iC n (a,ab) y=(a++[y],ab) by simp[iC,f]]at c;refine aY [(12,ab),(34,ab)] rfl ?_ (AK.aQ (i+1) rfl ?_ ?_ h j)
    .simp only[ar,d,bt,show i3.bytes=8 from rfl];simp[f];omega
    .rw[c];simp only[ar.cat,ar,d,bT,eb,aC,aB];and_intros<;>first|exact cq.same|exact g y|rfl|omega
    .rw[c];simp only[ar.cat,ar,d,bT,eb,aC,aB];and_intros<;>first|exact cq.same|exact g y|rfl|omega
   |false =>
    by_cases m:n<=y
    .rw[show iC n (a,ae) y=(a++[n,y],ab) by simp[iC,f,m]]at c;refine aY [(12,ab),(24,ab),(34,ab)] rfl ?_ (AK.aQ (i+1) rfl ?_ ?_ h j)
     .simp only[ar,d,bt,show i3.bytes=8 from rfl];simp[f,m];omega
     .rw[c];simp only[ar.cat,ar,d,bT,en,hO,aC,aB];and_intros<;>first|exact cq.same|exact o n y|rfl|omega
     .rw[c];simp only[ar.cat,ar,d,bT,en,hO,aC,aB];and_intros<;>first|exact cq.same|exact o n y|rfl|omega
    .rw[show iC n (a,ae) y=(a++[y],ae) by simp[iC,m]]at c;refine aY [(12,ab),(24,ae),(34,ab)] rfl ?_ (AK.aQ (i+1) rfl ?_ ?_ h j)
     .simp only[ar,d,bt,show i3.bytes=8 from rfl];simp[f,m];omega
     .rw[c];simp only[ar.cat,ar,d,bT,eb,aC,aB];and_intros<;>first|exact cq.same|exact g y|rfl|omega
     .rw[c];simp only[ar.cat,ar,d,bT,eb,aC,aB];and_intros<;>first|exact cq.same|exact g y|rfl|omega
 .obtain rfl:i=l.length:=by omega
  unfold jK;simp only[po,cB]at k⊢;generalize l.foldl (iC n) ([],ae)=a at *;obtain⟨a,b⟩:=a;have g:=cI.cm a n;refine aY [(12,ae)] rfl (by simp) (AK.leaveD rfl rfl ?_);cases b with
  |true=>exact bA rfl (by simp) (AK.bq rfl)
  |false =>
   refine bA rfl ?_ (AK.bq rfl ?_)
   .simp only[ar,show i3.bytes=8 from rfl];simp at k⊢;omega
   .simp only[ar,iG,b6,bT,eb];and_intros<;>first|exact g|trivial
abbrev xf:dv:=nt (aL cI) aI (λl n=>cI.sl (jK l n)) λl _=>[l.length<=100000000]
def Ay:dH X 61 xf:=.qn λl n h=>KU l n h
theorem gd(a:List Int):∀l:List Int,(l.foldl jK a).length<=a.length+l.length
 |[]=>by simp
 |x::l=>by have:=gd (jK a x) l;grind[KT]
def qc{b:Type}(f:b->Int->b)(a:b){l:List Int}(h:j<l.length):(l.take (j+1)).foldl f a=f ((l.take j).foldl f a) (l.getD j 0):=by grind[bx]
def fw(l:List gK):List Int:=(cd l).foldl jK []
theorem j5(l:List gK):(fw l).length<=(cd l).length:=by
 have:=gd [] (cd l)
 rwa [hO,bz]at this
def xT(s:cW)(t:s.2.length<=4000000)(p:(cd s.2).length<=4000000):Ev X 60 [F4 s] [] (cI.sl (fw s.2)) []:=by
 refine Ev.bQ Tryz.func60 rfl λo=>?_;have b:bR X [(61,xf)]:=.cons Ay .nil;refine bX b rfl aq ?_;refine AK.bS 1 (λi=>i<=s.2.length) (λi:Nat=>[(1,.e (.one (.ptr 0 0))),(3,cI.sl (fw (s.2.take i))),(4,dI i)]) (λ_=>[U8 s]) (λi=>s.2.length-i) 0 rfl (by simp[fw,cd]) rfl (by simp) rfl (by omega) ?_;intro i hi;by_cases h:i<s.2.length
 .have l:s.2.getD i cL.b8=s.2.getD i ([],[]):=rfl;have c:=sk h;have n:=nh s.2 (i+1);have q:=j5 (s.2.take i);have m:fw (s.2.take (i+1))=(s.2.getD i ([],[])).2.foldl jK (fw (s.2.take i)):=by simp only[fw,c,uM]
  rw[c,bT]at n;generalize s.2.getD i ([],[])=x at *;generalize fw (s.2.take i)=a at *;refine aO b [(11,ab)] rfl (by simp[h]) ?_;refine AK.bS 1 (λj=>j<=x.2.length) (λj:Nat=>[(1,.e (.one (.ptr 0 0))),(3,cI.sl ((x.2.take j).foldl jK a)),(4,dI i),(5,dI j)]) (λ_=>[U8 s]) (λj=>x.2.length-j) 0 rfl (by simp) rfl (by simp) rfl (by omega) ?_;intro j r;by_cases f:j<x.2.length
  .have d:x.2.getD j cI.b8=x.2.getD j 0:=rfl;have k:=qc jK a f;have g:=gd a (x.2.take j);rw[List.length_take]at g;generalize(x.2.take j).foldl jK a=a2 at *;have e:=cI.list_fn a2;refine aO b [(22,ab)] rfl ?_ (AK.aQ (j+1) rfl ?_ ?_ f (by omega))
   .simp[-ah,l,d,h,f,e,cI.au,bt];omega
   .rw[k];simp[-ah,l,d,e]
   .simp
  .obtain rfl:j=x.2.length:=by omega
   rw[cB,<-m];refine aO b [(22,ae)] rfl ?_ (AK.leaveD rfl rfl ?_)
   .simp[-ah,l,h]
   refine bX b rfl ?_ (AK.aQ (i+1) rfl ?_ ?_ h (by omega))
   .simp[bt];omega
   .simp
   .simp
 .obtain rfl:i=s.2.length:=by omega
  rw[cB];refine aO b [(11,ae)] rfl (by simp) (AK.leaveD rfl rfl ?_);exact bX b rfl aq (AK.bq rfl)
abbrev vd:dv:=kF (BV cL) (λs=>cI.sl (fw s.2)) λs=>[s.2.length<=4000000,(cd s.2).length<=4000000]
def Az:dH X 60 vd:=.oz λs h=>xT s h.1 h.2
def ji(l:List cW):List Int:=l.flatMap λx=>cd x.2
def fx(l:List cW):List Int:=l.foldl (λout x=>(fw x.2).foldl jK out) []
theorem qY{l:List cW}(h:i<l.length):ji (l.take (i+1))=ji (l.take i)++cd (l.getD i (0,[])).2:=by rw[bx h (0,[])];simp[ji]
def CE(l:List cW)(i:Nat):(ji (l.take i)).length<=(ji l).length:=by
 have h:ji l=ji (l.take i)++ji (l.drop i):=by unfold ji;grind[List.take_append_drop]
 grind
theorem xg{l:List cW}(h:i<l.length):fx (l.take (i+1))=(fw (l.getD i (0,[])).2).foldl jK (fx (l.take i)):=by unfold fx;grind[bx]
def qd(l:List cW):∀i,i<=l.length->(fx (l.take i)).length<=(ji (l.take i)).length
 |0,_=>by simp[fx]
 |i+1,h=>by have a:=qd l i (by omega);grind[gd,j5,xg,qY]
def EE(s:bw)(g:j0 s)(v:s.2.1.length<=4000000)(t:(ji s.2.1).length<=4000000):Ev X 28 [l4 s] [] (cI.sl (fx s.2.1)) []:=by
 refine Ev.bQ Tryz.func28 rfl λu=>?_;have b:bR X [(61,xf),(60,vd)]:=.cons Ay (.cons Az .nil);refine bX b rfl aq ?_;refine AK.bS 1 (λi=>i<=s.2.1.length) (λi:Nat=>[(1,.e (.one (.ptr 0 0))),(3,cI.sl (fx (s.2.1.take i))),(4,dI i)]) (λ_=>[L5 s]) (λi=>s.2.1.length-i) 0 rfl (by simp[fx]) rfl (by simp) rfl (by omega) ?_;intro i hi;by_cases h:i<s.2.1.length
 .have o:s.2.1.getD i cX.b8=s.2.1.getD i (0,[]):=rfl;have q:=g _ (iy (d:=(0,[])) h);have k:=qY h;have p:=CE s.2.1 (i+1);have y:=qd s.2.1 i hi;have g:=xg h;rw[k,bT]at p;generalize s.2.1.getD i (0,[])=x at *;have r:=j5 x.2;generalize fx (s.2.1.take i)=a at *;refine aO b [(12,ab)] rfl ?_ ?_
  .simp[-ah,h,o,cL.list_fn,cL.au];omega
  have f:s.2.1.getD (i:Int).toNat cX.b8=x:=by rw[bD];exact o
  rw[f,cL.list_fn];refine AK.bS 1 (λj=>j<=(fw x.2).length) (λj:Nat=>[(1,.e (.one (.ptr 0 0))),(3,cI.sl (((fw x.2).take j).foldl jK a)),(4,dI i),(5,cI.sl (fw x.2)),(6,dI j)]) (λ_=>[L5 s]) (λj=>(fw x.2).length-j) 0 rfl (by simp) rfl (by simp) rfl (by omega) ?_;intro j w;generalize fw x.2=ns at *;by_cases l:j<ns.length
  .have c:ns.getD j cI.b8=ns.getD j 0:=rfl;have n:=qc jK a l;have m:=gd a (ns.take j);rw[List.length_take]at m;generalize(ns.take j).foldl jK a=a2 at *;have e:=cI.list_fn a2;refine aO b [(24,ab)] rfl ?_ (AK.aQ (j+1) rfl ?_ ?_ l (by omega))
   .simp[-ah,c,l,e,cI.au,bt];omega
   .rw[n];simp[-ah,c,e]
   .simp
  .obtain rfl:j=ns.length:=by omega
   rw[cB,<-g];refine aO b [(24,ae)] rfl (by simp) (AK.leaveD rfl rfl ?_);refine bX b rfl ?_ (AK.aQ (i+1) rfl ?_ ?_ h (by omega))
   .simp[bt];omega
   .simp
   .simp
 .obtain rfl:i=s.2.1.length:=by omega
  rw[cB];refine aO b [(12,ae)] rfl (by simp) (AK.leaveD rfl rfl ?_);exact bX b rfl aq (AK.bq rfl)
abbrev xh:dv:=kF No (λs=>cI.sl (fx s.2.1)) λs=>[j0 s,s.2.1.length<=4000000,(ji s.2.1).length<=4000000]
def CF:dH X 28 xh:=.oz λs h=>EE s h.1 h.2.1 h.2.2
abbrev br:=bw×List Int×List Int
abbrev fSt:FA bw:=fP (fL cP) (fP (fL cX) (fL cH))
abbrev W5:FA br:=fP fSt (fP (fL cI) (fL cI))
abbrev kn(c:iT α)(l:List α):A:=.c (.sl ae c.k l.length (c.fn l))
abbrev Ub(w:br):List A:=[kn cP w.1.1,kn cX w.1.2.1,kn cH w.1.2.2,kn cI w.2.1,kn cI w.2.2]
abbrev nu(w:br):D:=.e (.agg (Ub w))
structure Pb(s:bw):Prop where
 pN:s.1.length<=4000000
 sm:j0 s
 sN:s.2.1.length<=4000000
 aN:(ji s.2.1).length<=4000000
def lT(ps:List bo)(l:List Int)(i:Nat):Bool:=(ps.any λp=>p.1==l.getD i 0)&&xc (λx=>x) 0 l i
def dz(k:Int)(w:br):Bool:=(fx w.1.2.1).all (λn=>w.2.1.contains n)&&(bg w.2.2.length).all (lT w.1.1 w.2.2)&&fJ k w.1
def KW{l:List Int}{p:Int->Bool}:l.all p=(bg l.length).all λi=>p (l.getD i 0):=by rw[nF,cK,List.all_eq_true];grind[List.mem_iff_getElem]
def HD{l:List bo}{p:bo->Bool}(h:j<l.length):(l.take (j+1)).any p=((l.take j).any p||p (l.getD j (0,[]))):=by grind[bx]
abbrev n9(w:br):bm:=.cells 30 (Ub w)
def CG(k:Int)(w:br)(m:Pb w.1):Ev X 10 [dI k,nu w] [] (dB (dz k w)) []:=by
 refine Ev.bQ Tryz.func10 rfl λC=>?_;have c:bR X [(28,xh),(29,Cw),(30,qb)]:=.cons CF (.cons Gk (.cons tr .nil));have D:=C.KJ 1 rfl 4 rfl;have u:=qd w.1.2.1 _ (ba _);rw[cB]at u;have B:=m.aN;refine bX c rfl ?_ ?_
 .simp[cP.list_fn,cP.au,cX.list_fn,cX.au,cH.list_fn,cH.au,m.sm,m.sN,m.aN]
 rw[cX.list_fn];unfold dz;rw[KW];generalize fx w.1.2.1=ms at *;refine AK.bS 1 (λi=>i<=ms.length/\∀j,j<i->w.2.1.contains (ms.getD j 0)=ab) (λi:Nat=>[(0,dI k),(3,.e (.one (.ptr 0 0))),(5,cI.sl ms),(6,dI i)]) (λ_=>[n9 w]) (λi=>ms.length-i) 0 rfl (by simp) rfl (by simp) rfl ⟨by omega,by omega⟩ ?_;rintro i ⟨hi,a⟩;by_cases h:i<ms.length
 .have o:ms.getD i cI.b8=ms.getD i 0:=rfl;cases t:w.2.1.contains (ms.getD i 0)with
  |false =>
   refine aO c [(16,ab),(26,ab)] rfl ?_ (AK.eP (cg.zero rfl ?_))
   .simp[-ah,-List.contains_eq_mem,o,h,t,cI.list_fn,cI.au]
   .rw[ft h t];simp
  |true =>
   refine aO c [(16,ab),(26,ae)] rfl ?_ (AK.aQ (i+1) rfl (by simp) (by simp) ⟨h,gb a t⟩ (by omega));simp[-ah,-List.contains_eq_mem,o,h,t,cI.list_fn,cI.au,bt];omega
 obtain rfl:i=ms.length:=by omega
 rw[cK.2 a,eL];refine aO c [(16,ae)] rfl (by simp) (AK.leaveD rfl rfl ?_);refine bX c rfl aq ?_;refine AK.bS 1 (λi=>i<=w.2.2.length/\∀j,j<i->lT w.1.1 w.2.2 j=ab) (λi:Nat=>[(0,dI k),(3,.e (.one (.ptr 0 0))),(7,dI i)]) (λ_=>[n9 w]) (λi=>w.2.2.length-i) 0 rfl (by simp) rfl (by simp) rfl ⟨by omega,by omega⟩ ?_;rintro i ⟨hi,a⟩;by_cases h:i<w.2.2.length
 .have o:w.2.2.getD i cI.b8=w.2.2.getD i 0:=rfl;have r:w.2.2.getD (i-1) cI.b8=w.2.2.getD (i-1) 0:=rfl;have g:lT w.1.1 w.2.2 i=((w.1.1.any λp=>p.1==w.2.2.getD i 0)&&xc (λx=>x) 0 w.2.2 i):=rfl;have y:=mm (f:=λx:Int=>x) (d:=0) (l:=w.2.2) (i:=i);generalize w.2.2.getD i 0=n at *;generalize w.2.2.getD (i-1) 0=n' at *;refine aO c [(31,ab)] rfl (by simp[h]) ?_;refine AK.bS 1 (λj=>j<=w.1.1.length) (λj:Nat=>[(0,dI k),(3,.e (.one (.ptr 0 0))),(7,dI i),(8,dB ((w.1.1.take j).any λp=>p.1==n)),(9,dI j)]) (λ_=>[n9 w]) (λj=>w.1.1.length-j) 0 rfl (by simp) rfl (by simp) rfl (by omega) ?_;intro j E;by_cases q:j<w.1.1.length
  .have F:=m.pN;have z:w.1.1.getD j cP.b8=w.1.1.getD j (0,[]):=rfl;have s:=HD (p:=λp=>p.1==n) q;generalize w.1.1.getD j (0,[])=p at *;generalize(w.1.1.take j).any (λp=>p.1==n)=b at *;cases b with
   |true =>
    refine aO c [(39,ab)] rfl ?_ (AK.aQ (j+1) rfl ?_ ?_ q (by omega))
    .simp[q,bt];omega
    .rw[s];simp
    .simp
   |false =>
    refine aO c [(39,ab)] rfl ?_ (AK.aQ (j+1) rfl ?_ ?_ q (by omega))
    .simp[-ah,h,q,bt];omega
    .rw[s];simp[-ah,z,o]
    .simp
  obtain rfl:j=w.1.1.length:=by omega
  rw[cB];refine aO c [(39,ae)] rfl (by simp) (AK.leaveD rfl rfl ?_);cases v:w.1.1.any (λp=>p.1==n)with
  |false =>
   rw[v,pD]at g;refine aO c [(77,ab)] rfl (by simp) (AK.eP (cg.zero rfl ?_));rw[ft h g];simp
  |true =>
   rw[v,eL]at g;by_cases A:i=0
   .subst A;refine aO c [(63,ae),(77,ae)] rfl ?_ (AK.aQ 1 rfl (by simp) (by simp) ⟨h,gb a (by rw[g];rfl)⟩ (by omega));simp[bt]
   by_cases G:n'<n
   .refine aO c [(63,ab),(75,ae),(77,ae)] rfl ?_ (AK.aQ (i+1) rfl (by simp) (by simp) ⟨h,gb a (by grind)⟩ (by omega));simp[-ah,o,r,h,bt];omega
   .refine aO c [(63,ab),(75,ab),(77,ab)] rfl ?_ (AK.eP (cg.zero rfl ?_))
    .simp[-ah,o,r,h,bt];omega
    .rw[ft h (by grind)];simp
 obtain rfl:i=w.2.2.length:=by omega
 rw[cK.2 a,eL];refine aO c [(31,ae)] rfl (by simp) (AK.leaveD rfl rfl ?_);refine bX c rfl ?_ (AK.bq rfl ?_)
 .simp[cP.list_fn,cP.au,cX.list_fn,cX.au,cH.list_fn,cH.au,m.sm,m.sN,m.pN]
 .simp[cP.list_fn,cX.list_fn,cH.list_fn]
abbrev gR:dv:=nt aI (WV W5) (λk w=>dB (dz k w)) λ_ w=>[Pb w.1]
def iz:dH X 10 gR:=.qn λk w h=>CG k w h
theorem Cd{s r:Bs}(h:b9 s=ab)(a:∀b∈r,b∈s):b9 r=ab:=by unfold b9 at h⊢;grind
def wQ{t:Bs}(b:b9 t=ab):∀k f,∀p∈fp t k f,bH p=ab
 |0,_,p,a=>by simp[fp]at a
 |k+1,f,p,a=>by
  simp only[fp]at a;split at a
  .rename_i h;have c:=m8 t f h;rcases eY.1 a with rfl|a
   .have d:((t.drop f).take (cutAt t f-f)).length=cutAt t f-f:=by grind
    simp only[bH,bJ,bh];grind[Cd]
   .exact wQ b k _ p a
  grind
def tg{t:Bs}(a:b9 t=ab):∀p∈pieces t,bH p=ab:=wQ a _ _
def tZ(t:Bs):∀k f,(fp t k f).length<=k
 |0,_=>ba _
 |k+1,f=>by
  simp only[fp];split
  .have:=tZ t k (cutAt t f);grind
  .simp
theorem j4(t:Bs):(pieces t).length<=t.length:=tZ t _ _
def j1(t:List bu):List Bs:=t.flatMap λf=>pieces f.2
def Ht{t:List bu}(h:i<t.length):j1 (t.take (i+1))=j1 (t.take i)++pieces (t.getD i ([],[])).2:=by rw[bx h ([],[])];simp[j1]
def NK(t:List bu)(i:Nat):(j1 (t.take i)).length<=(j1 t).length:=by
 have h:j1 t=j1 (t.take i)++j1 (t.drop i):=by unfold j1;grind[List.take_append_drop]
 grind
def yA(k:Int)(l:List dy)(ps:List Bs):∀a:List Bs,(ps.foldl (na k l) a).length<=a.length+ps.length:=by
 induction ps with
 |nil=>grind
 |cons p r b =>
  intro a;have d:=b (na k l a p);have c:(na k l a p).length<=a.length+1:=by unfold na;split<;>simp
  grind
abbrev KB:dv:=nt (aL oA) aI (λl n=>dI (tY l n)) λl _=>[l.length<=4000000]
def Q6:dH X 144 KB:=.qn λl n h=>Kf l n h
abbrev O9:dv:=nt (aL cS) aS (λl p=>dB (l.contains p)) λl _=>[l.length<=4000000]
def T7:dH X 145 O9:=.qn λl p h=>Nw l p h
abbrev YA(a:List Bs):D:=.e (.one (.vec 0 1 a.length (cS.fn a)))
structure wN(t:List bu):Prop where
 len:t.length<=4000000
 uy:∀f∈t,b9 f.2=ab/\f.2.length<=4000000
 all:(j1 t).length<=100000
def Kr(k:Int)(t:List bu)(l:List dy)(o:cD k=ab)(q:wN t)(B:l.length<=4000000):Ev X 102 [dI k,cF.sl t,oA.sl l] [] (cS.sl (jH k t l)) []:=by
 refine Ev.bQ Tryz.func102 rfl λE=>?_;have c:bR X [(143,Ga),(114,As),(144,KB),(145,O9)]:=.cons Km (.cons Ap (.cons Q6 (.cons T7 .nil)));refine aZ c [(1000002,ab)] rfl aq ?_;refine AK.ik 7 9 1 rfl rfl ?_;refine cu c rfl aq ?_;refine AK.bS 1 (λi=>i<=t.length) (λi:Nat=>[(0,dI k),(1,cF.sl t),(2,oA.sl l),(7,YA ((j1 (t.take i)).foldl (na k l) [])),(8,dI i)]) (λi=>[.vec 9 1 ((j1 (t.take i)).foldl (na k l) []).length (cS.fn ((j1 (t.take i)).foldl (na k l) []))]) (λi=>t.length-i) 0 rfl ?_ rfl ?_ rfl (by omega) ?_
 .simp[j1]
 .simp[j1]
 intro i hi;by_cases h:i<t.length
 .have v:t.getD (i:Int).toNat cF.b8=t.getD i ([],[]):=by grind
  have n:t.getD i ([],[])∈t:=by grind
  obtain⟨x,q2⟩:=q.uy _ n;have g:=Ht h;have s:=NK t (i+1);have w:=q.all;have A:=q.len;have r:=tg x;generalize t.getD i ([],[])=f at *;rw[g,bT]at s;refine aZ c [(15,ab)] rfl ?_ ?_
  .simp only[ar,v,x,bh,aC,aB];and_intros<;>omega
  rw[v];refine AK.bS 1 (λj=>j<=(pieces f.2).length) (λj:Nat=>[(0,dI k),(1,cF.sl t),(2,oA.sl l),(7,YA ((j1 (t.take i)++(pieces f.2).take j).foldl (na k l) [])),(8,dI i),(9,cS.sl (pieces f.2)),(10,dI j)]) (λj=>[.vec 9 1 ((j1 (t.take i)++(pieces f.2).take j).foldl (na k l) []).length (cS.fn ((j1 (t.take i)++(pieces f.2).take j).foldl (na k l) []))]) (λj=>(pieces f.2).length-j) 0 rfl ?_ rfl ?_ rfl (by omega) ?_
  .simp
  .simp
  intro j D;have u:=yA k l (j1 (t.take i)++(pieces f.2).take j) [];simp only[hO,bT,List.length_take]at u;by_cases C:j<(pieces f.2).length
  .have b:(pieces f.2).getD (j:Int).toNat cS.b8=(pieces f.2).getD j []:=by grind
   have d:bH ((pieces f.2).getD j [])=ab:=r _ (by grind);have a:(j1 (t.take i)++(pieces f.2).take (j+1)).foldl (na k l) []=na k l ((j1 (t.take i)++(pieces f.2).take j).foldl (na k l) []) ((pieces f.2).getD j []):=by grind[bx]
   generalize(j1 (t.take i)++(pieces f.2).take j).foldl (na k l) []=out at *;generalize(pieces f.2).getD j []=p at *;have y:=cS.cm out p;by_cases e:tY l (iM k p)=0
   .cases z:out.contains p with
    |true =>
     rw[na,aW (by grind)]at a;refine aZ c [(27,ab),(38,ab),(45,ab)] rfl ?_ (AK.aQ (j+1) rfl ?_ ?_ ?_ ?_)
     .simp only[ar,b,o,d,e,z,bt,cS.list_fn,oA.list_fn,jS,bh,aC,aB];and_intros<;>first|exact cS.au _|exact oA.au _|omega
     .rw[a];simp
     .rw[a];simp
     .grind
     .omega
    |false =>
     rw[na,bc (by grind)]at a;refine aZ c [(27,ab),(38,ab),(45,ae)] rfl ?_ (AK.aQ (j+1) rfl ?_ ?_ ?_ ?_)
     .simp only[ar,b,o,d,e,z,bt,show i9.bytes=16 from rfl,cS.list_fn,oA.list_fn,jS,bh,aC,aB];and_intros<;>first|exact cS.au _|exact oA.au _|omega
     .rw[a];simp only[ar.cat,ar,b,bT,en,hO,aC,aB];and_intros<;>first|exactλ_ _=>rfl|exact y|rfl|omega
     .rw[a];simp only[ar.cat,ar,b,bT,en,hO,aC,aB];and_intros<;>first|exact y|rfl|omega
     .grind
     .omega
   .rw[na,aW (by grind)]at a;refine aZ c [(27,ab),(38,ae)] rfl ?_ (AK.aQ (j+1) rfl ?_ ?_ ?_ ?_)
    .simp only[ar,b,o,d,bt,oA.list_fn,dG,cT,e,nC,bh,aC,aB];and_intros<;>first|exact oA.au _|omega
    .rw[a];simp
    .rw[a];simp
    .grind
    .omega
  .have m:j=(pieces f.2).length:=by omega
   refine aZ c [(27,ae)] rfl (by simp only[ar,bM];omega) (AK.leaveD rfl rfl ?_);refine cu c rfl ?_ (AK.aQ (i+1) rfl ?_ ?_ ?_ ?_)
   .simp only[ar,bt];omega
   .rw[g,m,cB];simp
   .rw[g,m,cB];simp
   .grind
   .omega
 .obtain rfl:i=t.length:=by omega
  rw[cB];refine aZ c [(15,ae)] rfl (by simp) (AK.leaveD rfl rfl ?_);refine cu c rfl aq (AK.bq rfl ?_);simp[jH,j1]
abbrev sd(k:Int)(ps:List Bs):List Int:=ps.map (iM k)
abbrev wR(k:Int)(t:List bu):List gK:=t.map (ua k)
abbrev Pa(no:Int)(ls:List gK):List bm:=[.cells 68 [.c (.int .i64 0),.c (.sl ab 0 0 λ_=>[])],.cells 68 [.c (.int .i64 no),.vec 2 2 ls.length (cL.fn ls)],.vec 107 2 ls.length (cL.fn ls)]
def NB(no k:Int)(t:List bu)(u:cD k=ab)(p:wN t):Ev X 105 [dI no,dI k,cF.sl t] [] (F4 (fU no k t)) []:=by
 refine Ev.kW tok Tryz.func105 rfl rfl rfl λA=>?_;have a:bR X [(143,Ga),(114,As)]:=.cons Km (.cons Ap .nil);refine aZ a [(1000002,ab)] rfl aq ?_;refine AK.iv 1 1 107 2 (cL.fn []) rfl rfl ?_;refine cu a rfl aq ?_;refine AK.bS 3 (λi=>i<=t.length) (λi:Nat=>[(1,dI k),(2,cF.sl t),(6,.e (.one (.ptr 0 0))),(7,.e (.one (.ptr 1 0))),(8,dI i)]) (λi=>Pa no (wR k (t.take i))) (λi=>t.length-i) 0 rfl ?_ rfl ?_ rfl (by omega) ?_
 .simp
 .simp
 intro i hi;by_cases h:i<t.length
 .have m:t.getD (i:Int).toNat cF.b8=t.getD i ([],[]):=by grind
  have d:t.getD i ([],[])∈t:=by grind
  obtain⟨r,q2⟩:=p.uy _ d;have y:=p.len;have o:=tg r;have x:=j4 (t.getD i ([],[])).2;have g:wR k (t.take (i+1))=wR k (t.take i)++[ua k (t.getD i ([],[]))]:=by grind[bx]
  have v:(wR k (t.take i)).length=i:=by grind
  generalize t.getD i ([],[])=f at *;generalize wR k (t.take i)=ls at *;refine aZ a [(18,ab),(1000007,ab)] rfl ?_ ?_
  .simp only[ar,m,r,bh,aC,aB];and_intros<;>omega
  rw[m];refine AK.ik 10 3 1 rfl rfl ?_;refine cu a rfl aq ?_;refine AK.bS 4 (λj=>j<=(pieces f.2).length) (λj:Nat=>[(1,dI k),(2,cF.sl t),(6,.e (.one (.ptr 0 0))),(7,.e (.one (.ptr 1 0))),(8,dI i),(9,cS.sl (pieces f.2)),(10,.e (.one (.vec 3 1 j (cI.fn (sd k ((pieces f.2).take j)))))),(11,dI j)]) (λj=>Pa no ls++[.vec 3 1 j (cI.fn (sd k ((pieces f.2).take j)))]) (λj=>(pieces f.2).length-j) 0 rfl ?_ rfl ?_ rfl (by omega) ?_
  .simp
  .simp
  intro j q;by_cases z:j<(pieces f.2).length
  .have b:(pieces f.2).getD (j:Int).toNat cS.b8=(pieces f.2).getD j []:=by grind
   have l:bH ((pieces f.2).getD j [])=ab:=o _ (by grind);have c:=cI.cm (sd k ((pieces f.2).take j)) (iM k ((pieces f.2).getD j []));rw[show(sd k ((pieces f.2).take j)).length=j by grind,show sd k ((pieces f.2).take j)++[iM k ((pieces f.2).getD j [])]=sd k ((pieces f.2).take (j+1)) by grind[bx]]at c;refine aZ a [(31,ab)] rfl ?_ (AK.aQ (j+1) rfl ?_ ?_ ?_ ?_)
   .simp only[ar,b,u,l,bt,show i3.bytes=8 from rfl,bh,aC,aB];and_intros<;>omega
   .simp only[ar.cat,ar,b,aC,aB];and_intros<;>first|exactλ_ _=>rfl|exact c|rfl|omega
   .simp only[ar.cat,ar,b,aC,aB];and_intros<;>first|exactλ_ _=>rfl|exact c|rfl|omega
   .grind
   .omega
  .have n:j=(pieces f.2).length:=by omega
   rw[n,cB];have c:=cL.cm ls (ua k f);have s:ls.length+1=(ls++[ua k f]).length:=by simp
   have w:cL.enc (ua k f)=[C.str f.1,C.sl ae 1 (pieces f.2).length (cI.fn (sd k (pieces f.2)))]:=by show[C.str f.1,C.sl ae 1 (sd k (pieces f.2)).length (cI.fn (sd k (pieces f.2)))]=_;grind
   rw[w,<-g]at c;rw[<-g]at s;refine aZ a [(31,ae)] rfl (by simp only[ar,bM];omega) (AK.leaveD rfl rfl ?_);refine cu a rfl ?_ (AK.aQ (i+1) rfl ?_ ?_ ?_ ?_)
   .simp only[ar,bt,show i107.bytes=40 from rfl,aC,aB];and_intros<;>omega
   .simp
   .simp only[ar.cat,ar,m,aC,aB];and_intros<;>first|exact cq.same|exact c|exact s|rfl
   .grind
   .omega
 .obtain rfl:i=t.length:=by omega
  rw[cB];refine aZ a [(18,ae)] rfl (by simp) (AK.leaveD rfl rfl ?_);refine cu a rfl aq ?_;refine AK.kV () [] rfl rfl rfl rfl rfl rfl rfl rfl ?_ rfl rfl rfl rfl (λj q=>absurd q (by simp));simp[fU]
def nb(f g:Nat->List C):cR 0 f g=g:=by funext i;simp[cR]
abbrev th(s:bw):bm:=.cells 27 [.c (.sl ae 2 s.1.length (cP.fn s.1)),.c (.sl ae 2 s.2.1.length (cX.fn s.2.1)),.c (.sl ae 2 s.2.2.length (cH.fn s.2.2))]
def KC{a b:Int}(m:Int)(h:o.op=.call {callee:=.builtin .max,args:=#[x,y],argTypes:=jN})(l:η x=dI a)(k:η y=dI b)(q:max a b=m)(n:bt .i64 m):bF ag o η σ (dI m) σ:=by
 refine .quiet λs j p c=>?_;have i:=c x;have d:=c y;rw[l]at i;rw[k]at d;replace i:=fM i;replace d:=fM d;generalize f:j x=vx at i;generalize g:j y=vy at d;cases i;cases d;have e:(if a<b then b else a)=m:=by grind
 exact⟨.int .i64 m,by simp[an,h,resolve,invoke,builtin,f,g,Builtin.max_,Builtin.max2,e],.int n,by simp[an,h,resolve,invoke,builtin,f,g,Builtin.max_,Builtin.max2]⟩
def fO(s:bw):Int:=if s.1.length=0 then 1 else(s.1.getD (s.1.length-1) (0,[])).1+1
def pf(l:List (Int×Int)):Int:=l.foldl (λm h=>max m (h.2+1)) 1
def ey(s:bw):Int:=if s.2.1.length=0 then pf s.2.2 else max (pf s.2.2) ((s.2.1.getD (s.2.1.length-1) (0,[])).1+1)
structure NC(st:bw):Prop where
 p:∀x∈st.1,-4000000<=x.1/\x.1<=4000000
 s:∀x∈st.2.1,-4000000<=x.1/\x.1<=4000000
 h:∀x∈st.2.2,-4000000<=x.2/\x.2<=4000000
def pb(l:List (Int×Int))(h:∀x∈l,-4000000<=x.2/\x.2<=4000000):1<=pf l/\pf l<=4000001:=by
 have:∀(l:List (Int×Int)) (m:Int),(∀x∈l,-4000000<=x.2/\x.2<=4000000)->1<=m->m<=4000001->1<=l.foldl (λm h=>max m (h.2+1)) m/\l.foldl (λm h=>max m (h.2+1)) m<=4000001:=by
  intro l;induction l with
  |nil=>grind
  |cons x r a =>
   grind
 exact this l 1 h (by omega) (by omega)
def Ez{l:List (Int×Int)}(h:i<l.length):pf (l.take (i+1))=max (pf (l.take i)) ((l.getD i (0,0)).2+1):=by unfold pf;grind[bx]
def gA{l:List α}(h:i<l.length)(d:α):l.getD i d∈l:=by grind
def Hn(s:bw)(d:gF s)(b:NC s):Ev X 101 [l4 s] [] (.fK [.one (.c (.int .i64 (fO s))),.one (.c (.int .i64 (ey s)))]) []:=by
 refine Ev.bQ Tryz.func101 rfl λo=>?_;have k:=d.p;have j:=d.sn;have n:=d.h;apply AK.join [(1,.e (.one (.ptr 0 0))),(4,dI (fO s)),(5,dI 1)] [th s]
 .intro out;by_cases h:s.1.length=0
  .refine bE [(10,ae),(1000005,ab)] rfl (by simp only[ar,bM];omega) ?_;exact out _ _ rfl (by simp[fO,h])
  .have f:=b.p _ (gA (show s.1.length-1<s.1.length by omega) (0,[]));have a:s.1.getD ((s.1.length:Int)-1).toNat cP.b8=s.1.getD (s.1.length-1) (0,[]):=by rw[show((s.1.length:Int)-1).toNat=s.1.length-1 by omega];rfl
   refine bE [(10,ab),(1000005,ab)] rfl ?_ ?_
   .simp only[ar,a,bt,bh,aC,aB];and_intros<;>omega
   exact out _ _ rfl (by simp only[ar.cat,ar,fO,aW h,a,aC,aB])
 refine c6 rfl aq ?_;refine AK.bS 1 (λi=>i<=s.2.2.length) (λi:Nat=>[(1,.e (.one (.ptr 0 0))),(4,dI (fO s)),(5,dI (pf (s.2.2.take i))),(6,dI i)]) (λi=>[th s]) (λi=>s.2.2.length-i) 0 rfl ?_ rfl ?_ rfl (by omega) ?_
 .simp[pf]
 .simp
 intro i hi;by_cases h:i<s.2.2.length
 .have f:=b.h _ (gA h (0,0));have l:=pb (s.2.2.take i) λx m=>b.h x (jR m);have a:s.2.2.getD (i:Int).toNat cH.b8=s.2.2.getD i (0,0):=by grind
  have g:=Ez h;refine bE [(25,ab)] rfl ?_ ?_
  .simp only[ar,a,bt,bh,aC,aB];and_intros<;>omega
  rw[a];refine AK.law (KC (pf (s.2.2.take (i+1))) rfl rfl rfl g.symm (by simp only[bt];omega)) rfl rfl ?_;refine c6 rfl ?_ (AK.aQ (i+1) rfl ?_ ?_ ?_ ?_)
  .simp only[ar,bt];omega
  .simp
  .simp
  .grind
  .omega
 obtain rfl:i=s.2.2.length:=by omega
 rw[cB];refine bE [(25,ae)] rfl (by simp) (AK.leaveD rfl rfl ?_);have l:=pb s.2.2 b.h;by_cases h:s.2.1.length=0
 .refine bE [(40,ae)] rfl (by simp only[ar,bM];omega) (AK.bq rfl ?_);simp[ey,h]
 .have f:=b.s _ (gA (show s.2.1.length-1<s.2.1.length by omega) (0,[]));have a:s.2.1.getD ((s.2.1.length:Int)-1).toNat cX.b8=s.2.1.getD (s.2.1.length-1) (0,[]):=by rw[show((s.2.1.length:Int)-1).toNat=s.2.1.length-1 by omega];rfl
  refine bE [(40,ab)] rfl ?_ ?_
  .simp only[ar,a,bt,bh,aC,aB];and_intros<;>omega
  rw[a];refine AK.law (KC (ey s) rfl rfl rfl (by rw[ey,aW h]) (by rw[ey,aW h];simp only[bt];omega)) rfl rfl ?_;exact c6 rfl aq (AK.bq rfl)
abbrev Q7(s:bw)(i:Nat)(p:List bo)(j:Nat)(q:List cW):List bm:=[th s,.cells 27 [iN,iN,iN],.vec 62 2 s.2.2.length (cH.fn s.2.2),.cells 27 [.vec 4 2 i (cP.fn p),.vec 5 2 j (cX.fn q),.vec 2 2 s.2.2.length (cH.fn s.2.2)],.vec 39 2 i (cP.fn p),.vec 68 2 j (cX.fn q)]
def j3(s:bw)(u:s.1.length<=4000000)(g:∀p∈s.1,p.2.length<=4000000)(o:s.2.1.length<=4000000)(d:j0 s)(t:s.2.2.length<=4000000):
  Ev X 32 [l4 s] [] (.e (.agg [.vec 0 2 s.1.length (cP.fn s.1),.vec 1 2 s.2.1.length (cX.fn s.2.1),.vec 2 2 s.2.2.length (cH.fn s.2.2)])) [.vec 39 2 s.1.length (cP.fn s.1),.vec 68 2 s.2.1.length (cX.fn s.2.1),.vec 62 2 s.2.2.length (cH.fn s.2.2)]:=by
 refine Ev.kW tok Tryz.func32 rfl rfl rfl λr=>?_;refine bE [(1000002,ab)] rfl ?_ ?_
 .simp only[ar,show i62.bytes=16 from rfl,aC,aB,true_or];grind
 refine AK.iv 3 0 39 2 (cP.fn []) rfl rfl ?_;refine AK.iv 3 1 68 2 (cX.fn []) rfl rfl ?_;refine c6 rfl aq ?_;refine AK.bS 6 (λi=>i<=s.1.length) (λi:Nat=>[(1,.e (.one (.ptr 0 0))),(2,.e (.one (.ptr 1 0))),(3,.e (.one (.ptr 3 0))),(4,dI i)]) (λi=>Q7 s i (s.1.take i) 0 []) (λi=>s.1.length-i) 0 rfl ?_ rfl ?_ rfl (by omega) ?_
 .simp
 .simp[cq,nb]
 intro i hi;by_cases h:i<s.1.length
 .have f:s.1.getD i (0,[])∈s.1:=by grind
  have a:s.1.getD (i:Int).toNat cP.b8=s.1.getD i (0,[]):=by grind
  have q:=g _ f;refine bE [(20,ab),(2000038,ab)] rfl ?_ (AK.aQ (i+1) rfl ?_ ?_ ?_ ?_)
  .simp only[ar,a,bt,show i39.bytes=32 from rfl,show i60.bytes=24 from rfl,bh,true_or,aC,aB];and_intros<;>omega
  .simp
  .have e:=cP.pZ s.1 h (0,[]);simp only[ar.cat,ar,a,nb,bz,aB,aC];and_intros<;>first|exactλ_ _=>rfl|exact e|rfl|omega
  .grind
  .omega
 obtain rfl:i=s.1.length:=by omega
 rw[cB];refine bE [(20,ae)] rfl (by simp) (AK.leaveD rfl rfl ?_);refine c6 rfl aq ?_;refine AK.bS 6 (λi=>i<=s.2.1.length) (λi:Nat=>[(1,.e (.one (.ptr 0 0))),(2,.e (.one (.ptr 1 0))),(3,.e (.one (.ptr 3 0))),(5,dI i)]) (λi=>Q7 s s.1.length s.1 i (s.2.1.take i)) (λi=>s.2.1.length-i) 0 rfl ?_ rfl ?_ rfl (by omega) ?_
 .simp
 .simp[cq]
 intro i hi;by_cases h:i<s.2.1.length
 .have f:s.2.1.getD i (0,[])∈s.2.1:=by grind
  have a:s.2.1.getD (i:Int).toNat cX.b8=s.2.1.getD i (0,[]):=by grind
  have q:=d _ f;have e:=cX.pZ s.2.1 h (0,[]);generalize s.2.1.getD i (0,[])=x at *;refine bE [(47,ab),(1000010,ab)] rfl ?_ ?_
  .simp only[ar,a,bh,true_or,aC,aB];and_intros<;>omega
  rw[a];refine AK.iv 6 1 107 2 (cL.fn []) rfl rfl ?_;refine c6 rfl aq ?_;refine AK.bS 8 (λj=>j<=x.2.length) (λj:Nat=>[(1,.e (.one (.ptr 0 0))),(2,.e (.one (.ptr 1 0))),(3,.e (.one (.ptr 3 0))),(5,dI i),(6,.e (.one (.ptr 6 0))),(7,dI j)]) (λj=>Q7 s s.1.length s.1 i (s.2.1.take i)++[.cells 68 [.c (.int .i64 x.1),.vec 7 2 j (cL.fn (x.2.take j))],.vec 107 2 j (cL.fn (x.2.take j))]) (λj=>x.2.length-j) 0 rfl ?_ rfl ?_ rfl (by omega) ?_
  .simp
  .simp[cq]
  intro j k;by_cases l:j<x.2.length
  .have b:x.2.getD (j:Int).toNat cL.b8=x.2.getD j ([],[]):=by grind
   have n:=q.2 (x.2.getD j ([],[])) (by grind);have m:=cL.pZ x.2 l ([],[]);refine bE [(66,ab),(2000085,ab)] rfl ?_ (AK.aQ (j+1) rfl ?_ ?_ ?_ ?_)
   .simp only[ar,a,b,bt,show i107.bytes=40 from rfl,show i3.bytes=8 from rfl,bh,true_or,aC,aB];and_intros<;>omega
   .simp
   .simp only[ar.cat,ar,a,b,nb,bz,aB,aC];and_intros<;>first|exactλ_ _=>rfl|exact m|rfl
   .grind
   .omega
  obtain rfl:j=x.2.length:=by omega
  rw[cB];refine bE [(66,ae)] rfl ?_ (AK.leaveD rfl rfl ?_)
  .simp only[ar,a,bM];and_intros<;>omega
  refine c6 rfl ?_ (AK.aQ (i+1) rfl ?_ ?_ ?_ ?_)
  .simp only[ar,a,bt,show i68.bytes=32 from rfl,aC,aB];and_intros<;>omega
  .simp
  .simp only[ar.cat,ar,aB,aC];and_intros<;>first|exactλ_ _=>rfl|exact e|rfl|omega
  .grind
  .omega
 obtain rfl:i=s.2.1.length:=by omega
 rw[cB];refine bE [(47,ae)] rfl (by simp) (AK.leaveD rfl rfl ?_);refine c6 rfl aq ?_;refine AK.kV () [4,5,2] rfl rfl rfl rfl rfl rfl rfl rfl ?_ rfl rfl rfl rfl (λj k=>absurd k (by simp))
 .simp
def _root_.Go.AM.iT.Hm(c:iT α)(l:List α)(a:cq n es (c.fn l))(b:n<=l.length):c.list n es=l.take n:=by
 apply ry
 .simp[iT.list];omega
 .intro i h1 h2;have hi:i<n:=by grind
  simp[iT.list,a i hi,iT.fn,xS,ah,bn (show i<l.length by omega),c.inv]
def _root_.Go.AM.iT.NA(c:iT α)(l:List α)(a:cq n es (c.fn l)):c.fits n es:=λi hi=>by rw[a i hi];exact c.au l i (Nat.lt_succ_self i)
def Kn(a b:Nat):min (a:Int) (b:Int)=((min a b:Nat):Int):=by grind
def gV(k:Int):Nat->Int->List Bs->List bo
 |0,_,_=>[]
 |f+1,no,ps=>if 0<ps.length then jG no k (ps.take 4)::gV k f (no+1) (ps.drop 4)else[]
def wL(k:Int)(s:bw)(t:List bu):List bo:=gV k (jH k t (indexOf s.1)).length (fO s) (jH k t (indexOf s.1))
def fQ(k:Int)(s:bw)(t:List bu):Bool:=decide (20<s.1.length+(wL k s t).length)||(decide (99<fO s+(wL k s t).length-1)||(decide (20<ey s)||decide (9<=s.2.2.length)))
def ga(k:Int)(s:bw)(by_:Int)(t:List bu):bw:=(s.1++wL k s t,s.2.1++[fU (ey s) k t],s.2.2++[(by_,ey s)])
theorem wM(k:Int):∀f no ps,(gV k f no ps).length<=f
 |0,_,_=>ba _
 |f+1,no,ps=>by
  simp only[gV];split
  .have:=wM k f (no+1) (ps.drop 4);grind
  .simp
abbrev Ko:dv:=Dj aI aI (aL cS) (λno k ps=>qo (jG no k ps)) λ_ k ps=>[cD k=ab,∀p∈ps,bH p=ab,ps.length<=4000000]
def QZ:dH X 104 Ko:=.Ih λno k ps h=>Kp no k ps h.1 h.2.1 h.2.2
abbrev O4:dv:=Dj aI aI (aL cF) (λno k t=>F4 (fU no k t)) λ_ k t=>[cD k=ab,wN t]
def TZ:dH X 105 O4:=.Ih λno k t h=>NB no k t h.1 h.2
abbrev Kq:dv:=Dj aI (aL cF) (aL oA) (λk t l=>cS.sl (jH k t l)) λk t l=>[cD k=ab,wN t,l.length<=4000000]
def Q0:dH X 102 Kq:=.Ih λk t l h=>Kr k t l h.1 h.2.1 h.2.2
def qW{k:Int}{t:List bu}{l:List dy}(c:wN t):(∀p∈jH k t l,bH p=ab)/\(jH k t l).length<=100000:=by
 constructor
 .have:∀(ps a:List Bs),(∀p∈ps,bH p=ab)->(∀p∈a,bH p=ab)->∀p∈ps.foldl (na k l) a,bH p=ab:=by
   intro ps;induction ps with
   |nil=>grind
   |cons q r h =>
    intro a g e;refine h _ (λp b=>g p (mx _ b)) λp b=>?_;unfold na at b;grind
  refine this _ [] (λp b=>?_) (by simp);obtain⟨f,d,b⟩:=List.mem_flatMap.1 b;exact tg (c.uy f d).1 p b
 .have:=yA k l (j1 t) [];have e:=c.all;unfold jH;simp only[hO]at this;exact fG this (by omega)
def B9{l:List bo}(h:(eF l).length<=100000):(indexOf l).length<=100000:=by unfold indexOf;grind[yB]
abbrev W0(k by_ no:Int)(s:bw)(t:List bu)(rest:List Bs):Fr:=[(0,dI k),(2,dI by_),(3,cF.sl t),(5,.e (.one (.ptr 0 0))),(8,.e (.one (.ptr 1 0))),(10,.e (.one (.ptr 5 0))),(11,dI no),(12,dI (ey s)),(13,cS.sl rest)]
abbrev T1(s:bw)(ps:List bo):List bm:=[th s,.cells 27 [iN,iN,iN],.vec 39 2 ps.length (cP.fn ps),.vec 68 2 s.2.1.length (cX.fn s.2.1),.vec 62 2 s.2.2.length (cH.fn s.2.2),.cells 27 [.vec 2 2 ps.length (cP.fn ps),.vec 3 2 s.2.1.length (cX.fn s.2.1),.vec 4 2 s.2.2.length (cH.fn s.2.2)]]
abbrev R7(s:bw)(b:Bool):D:=.fK [.agg [.c (.sl ae 2 s.1.length (cP.fn s.1)),.c (.sl ae 2 s.2.1.length (cX.fn s.2.1)),.c (.sl ae 2 s.2.2.length (cH.fn s.2.2))],.one (.c (.bool b))]
def tj(k:Int)(s:bw)(by_:Int)(t:List bu)(j:cD k=ab)(a:gF s)(g:NC s)(d:wN t)(n:(eF s.1).length<=100000):
  Ev X 80 [dI k,l4 s,dI by_,cF.sl t] [] (R7 (if fQ k s t=ab then s else ga k s by_ t) (!fQ k s t)) []:=by
 refine Ev.mb Tryz.func80 rfl rfl rfl λT=>?_;have c:bR X [(103,Ks),(102,Kq),(104,Ko),(105,O4)]:=.cons Q1 (.cons Q0 (.cons QZ (.cons TZ .nil)));have R:=a.p;have P:=a.sn;have Q:=a.h;have F:=B9 n;refine cu c rfl aq ?_;refine AK.cQ (j3 s a.p a.p2 a.sn a.s2 a.h) [] rfl ?_;refine cu c rfl aq ?_;refine AK.cQ (Hn s a g) [] rfl ?_;refine cu c rfl ?_ ?_
 .simp only[ar,cP.list_fn,oA.list_fn,cF.list_fn,j,d];and_intros<;>first|exact cP.au _|exact oA.au _|exact cF.au _|trivial|exact d|omega
 simp only[cP.list_fn,oA.list_fn,cF.list_fn];obtain⟨m,M⟩:=qW (k:=k) (l:=indexOf s.1) d;have S:wL k s t=gV k (jH k t (indexOf s.1)).length (fO s) (jH k t (indexOf s.1)):=rfl;generalize jH k t (indexOf s.1)=pc at *;generalize w:wL k s t=np at *;have D:-4000000<=fO s/\fO s<=4000001:=by
  unfold fO;split
  .omega
  .rename_i h;have:=g.p _ (gA (show s.1.length-1<s.1.length by omega) (0,[]));omega
 have N:np.length<=100000:=by grind[wM]
 refine AK.kE (S2:=Unit) 0 rfl rfl (λ_=>True) (λ_=>[(0,dI k),(2,dI by_),(3,cF.sl t),(5,.e (.one (.ptr 0 0))),(8,.e (.one (.ptr 1 0))),(10,.e (.one (.ptr 5 0))),(11,dI (fO s+np.length)),(12,dI (ey s))]) (λ_=>T1 s (s.1++np)) 6
  (λx:List Bs×List bo=>(∀p∈x.1,bH p=ab)/\x.2.length+x.1.length<=5000000/\s.1.length<=x.2.length/\∃f,x.1.length<=f/\s.1++np=x.2++gV k f (fO s+(x.2.length-s.1.length:Nat)) x.1) (λx=>W0 k by_ (fO s+(x.2.length-s.1.length:Nat)) s t x.1) (λx=>T1 s x.2) (λx=>x.1.length) (pc,s.1) rfl ?_ rfl ?_ rfl ⟨m,by grind,ba _,pc.length,ba _,by grind⟩ ?_ ?_
 .simp
 .simp
 .rintro out ⟨rest,ps⟩ ⟨r,g2,G,f,I,v⟩;simp only at r g2 G I v;by_cases h:0<rest.length
  .obtain⟨f,rfl⟩:∃C,f=C+1:=⟨f-1,by omega⟩
   simp only[gV,bc h]at v;have A:bt .i64 ((min rest.length 4:Nat):Int):=by simp only[bt];omega
   refine aZ c [(30,ab)] rfl (by simp only[ar,bh];omega) ?_;refine AK.law (Ag ((min rest.length 4:Nat):Int) rfl rfl rfl (Kn rest.length 4) A) rfl rfl ?_;have y:cS.list (cr rest.length (aa ((min rest.length 4:Nat):Int))-cr 0 af) (k9 (cr 0 af) (cS.fn rest))=rest.take 4:=by
    have q:cr rest.length (aa ((min rest.length 4:Nat):Int))-cr 0 af=min rest.length 4:=by simp[cr]
    rw[q,cS.Hm rest (λi hi=>by simp[k9,cr]) (by omega)];grind
   have z:cS.fits (cr rest.length (aa ((min rest.length 4:Nat):Int))-cr 0 af) (k9 (cr 0 af) (cS.fn rest)):=cS.NA rest (λi hi=>by simp[k9,cr]);have O:cq (rest.length-min rest.length 4) (k9 (min rest.length 4) (cS.fn rest)) (cS.fn (rest.drop 4)):=by
    intro i hi;have K:min rest.length 4=4:=by omega
    rw[K];simp only[k9,iT.fn,xS,ah,oF]
   have o:∀p∈rest.take 4,bH p=ab:=λp u=>r p (jR u);have J:=cP.cm ps (jG (fO s+(ps.length-s.1.length:Nat)) k (rest.take 4));refine cu c rfl ?_ (AK.aQ (rest.drop 4,ps++[jG (fO s+(ps.length-s.1.length:Nat)) k (rest.take 4)]) rfl ?_ ?_ ?_ ?_)
   .simp only[ar,bt,y,j,z,List.length_take,show i39.bytes=32 from rfl,aC,aB];and_intros<;>first|exact o|omega
   .simp only[ar.cat,ar,bT,en,hO,ru,cr,bD,aC,aB];and_intros<;>first|rfl|omega|exactλ_ _=>rfl|exact O
   .simp only[ar.cat,ar,y,bT,en,hO,aC,aB];and_intros<;>first|rfl|exactλ_ _=>rfl|exact J|omega
   .refine⟨λp u=>r p (y9 u),by grind,by grind,f,by grind,?_⟩;grind
   grind
  .have e:ps=s.1++np:=by rw[v];cases f<;>simp[gV,h]
   refine aZ c [(30,ae)] rfl (by simp only[ar,bM];omega) (AK.leaveD rfl rfl ?_);refine out () aq rfl ?_ rfl ?_
   .simp only[ar.cat,ar,e,bT,aC,aB];and_intros<;>first|rfl|omega|exactλ_ _=>rfl
   .simp[e]
 rintro⟨⟩ -;have L:fQ k s t=(decide (20<s.1.length+np.length)||(decide (99<fO s+np.length-1)||(decide (20<ey s)||decide (9<=s.2.2.length)))):=by unfold fQ;rw[w]
 have E:-4000000<=ey s/\ey s<=4000001:=by
  have:=pb s.2.2 g.h;unfold ey;split
  .omega
  .rename_i h;have:=g.s _ (gA (show s.2.1.length-1<s.2.1.length by omega) (0,[]));omega
 have H:(s.1++np).length=s.1.length+np.length:=bT;by_cases c1:20<s.1.length+np.length
 .have b:fQ k s t=ab:=by grind
  rw[b];refine aZ c [(53,ab)] rfl ?_ ?_
  .simp only[ar,bT,bt,bh,bM,aC,aB];grind
  refine AK.cQ (j3 s a.p a.p2 a.sn a.s2 a.h) [] rfl ?_;refine cu c rfl aq ?_;refine AK.freeze 8 1 rfl rfl rfl ?_;refine AK.lD tok [] rfl ?_ rfl rfl rfl jF;simp
 by_cases c2:99<fO s+np.length-1
 .have b:fQ k s t=ab:=by grind
  rw[b];refine aZ c [(53,ae),(57,ab)] rfl ?_ ?_
  .simp only[ar,bT,bt,bh,bM,aC,aB];and_intros<;>omega
  refine AK.cQ (j3 s a.p a.p2 a.sn a.s2 a.h) [] rfl ?_;refine cu c rfl aq ?_;refine AK.freeze 8 1 rfl rfl rfl ?_;refine AK.lD tok [] rfl ?_ rfl rfl rfl jF;simp
 by_cases c3:20<ey s
 .have b:fQ k s t=ab:=by grind
  rw[b];refine aZ c [(53,ae),(57,ae),(61,ab)] rfl ?_ ?_
  .simp only[ar,bT,bt,bh,bM,aC,aB];and_intros<;>omega
  refine AK.cQ (j3 s a.p a.p2 a.sn a.s2 a.h) [] rfl ?_;refine cu c rfl aq ?_;refine AK.freeze 8 1 rfl rfl rfl ?_;refine AK.lD tok [] rfl ?_ rfl rfl rfl jF;simp
 by_cases c4:9<=s.2.2.length
 .have b:fQ k s t=ab:=by grind
  rw[b];refine aZ c [(53,ae),(57,ae),(61,ae),(67,ab)] rfl ?_ ?_
  .simp only[ar,bT,bt,bh,bM,aC,aB];and_intros<;>omega
  refine AK.cQ (j3 s a.p a.p2 a.sn a.s2 a.h) [] rfl ?_;refine cu c rfl aq ?_;refine AK.freeze 8 1 rfl rfl rfl ?_;refine AK.lD tok [] rfl ?_ rfl rfl rfl jF;simp
 have b:fQ k s t=ae:=by grind
 rw[b];have q:=cX.cm s.2.1 (fU (ey s) k t);have B:=cH.cm s.2.2 (by_,ey s);refine aZ c [(53,ae),(57,ae),(61,ae),(67,ae)] rfl ?_ ?_
 .simp only[ar,j,cF.list_fn,bT,bt,show i68.bytes=32 from rfl,show i62.bytes=16 from rfl,bh,bM,aC,aB];and_intros<;>first|exact d|exact cF.au _|rfl|omega
 refine AK.freeze 8 1 rfl rfl rfl ?_;refine AK.lD tok [] rfl ?_ rfl rfl rfl jF;simp only[ar.cat,ar,cF.list_fn,ga,w,bT,en,hO,aC,aB];and_intros<;>first|rfl|exactλ_ _=>rfl|exact q|exact B|simp
def Ho(l:List Int):Ev X 13 [cI.sl l,cI.sl l] [] (dB ab) []:=by
 refine Ev.bQ Tryz.func13 rfl λa=>?_;have b:=a.sl 0 rfl;refine aY [(10,ae)] rfl (by simp) ?_;refine AK.bS 0 (λi=>i<=l.length) (λi:Nat=>[(0,cI.sl l),(1,cI.sl l),(5,dI i)]) (λ_=>[]) (λi=>l.length-i) 0 rfl (by simp) rfl (by simp) rfl (by omega) ?_;intro i hi;by_cases h:i<l.length
 .refine bE [(14,ab),(25,ae)] rfl ?_ (AK.aQ (i+1) rfl ?_ ?_ ?_ ?_)
  .simp only[ar,bt,jS,er,ny,bh,aC,aB];and_intros<;>omega
  .simp
  .simp
  .grind
  .omega
 .refine bE [(14,ae)] rfl (by simp;omega) (AK.leaveD rfl rfl ?_);exact c6 rfl aq (AK.bq rfl)
abbrev NG:dv:=nt (aL cI) (aL cI) (λ_ _=>dB ab) λa b=>[b=a]
def Q2:dH X 13 NG:=.qn λa b h=>by have:b=a:=h;subst this;exact Ho _
def Kv(l:List (Int×Int)):Ev X 14 [cH.sl l,cH.sl l] [] (dB ab) []:=by
 refine Ev.bQ Tryz.func14 rfl λa=>?_;have b:=a.sl 0 rfl;refine aY [(10,ae)] rfl (by simp) ?_;refine AK.bS 0 (λi=>i<=l.length) (λi:Nat=>[(0,cH.sl l),(1,cH.sl l),(5,dI i)]) (λ_=>[]) (λi=>l.length-i) 0 rfl (by simp) rfl (by simp) rfl (by omega) ?_;intro i hi;by_cases h:i<l.length
 .refine bE [(14,ab),(25,ae)] rfl ?_ (AK.aQ (i+1) rfl ?_ ?_ ?_ ?_)
  .simp[bt,h];omega
  .simp
  .simp
  .grind
  .omega
 .refine bE [(14,ae)] rfl (by simp;omega) (AK.leaveD rfl rfl ?_);exact c6 rfl aq (AK.bq rfl)
abbrev Q3:dv:=nt (aL cH) (aL cH) (λ_ _=>dB ab) λa b=>[b=a]
def T2:dH X 14 Q3:=.qn λa b h=>by have:b=a:=h;subst this;exact Kv _
abbrev pB(p:bo):bm:=.cells 39 [.c (.int .i64 p.1),.c (.sl ae 2 p.2.length (ef.fn p.2))]
def Hp(p:bo):Ev X 12 [qo p,qo p] [] (dB ab) []:=by
 refine Ev.bQ Tryz.func12 rfl λk=>?_;by_cases q:p.2.length<=9223372036854775807
 .refine aY [(10,ae),(18,ae)] rfl (by simp) ?_;refine AK.bS 2 (λi=>i<=p.2.length) (λi:Nat=>[(2,.e (.one (.ptr 0 0))),(3,.e (.one (.ptr 1 0))),(5,dI i)]) (λ_=>[pB p,pB p]) (λi=>p.2.length-i) 0 rfl (by simp) rfl (by simp) rfl (by omega) ?_;intro i hi;by_cases h:i<p.2.length
  .refine bE [(24,ab),(37,ae)] rfl ?_ (AK.aQ (i+1) rfl ?_ ?_ ?_ ?_)
   .simp[bt,h];omega
   .simp
   .simp
   .grind
   .omega
  .refine bE [(24,ae)] rfl (by simp;omega) (AK.leaveD rfl rfl ?_);exact c6 rfl aq (AK.bq rfl)
 .exfalso;obtain⟨s,vs,g,_⟩:=k;obtain⟨n,m⟩:∃v,dk [] s v (qo p):=by
   match vs,g with
   |[a,_],g=>exact⟨a,g.1⟩
  obtain⟨l,_,d⟩:=m
  match l,d with
  |[a,c],d =>
   have:=d.2.1;cases(show Rd s.M c (.sl ae 2 p.2.length (ef.fn p.2))from this)with
   |sl b off f j o=>omega
abbrev Q4:dv:=nt (BV ef) (BV ef) (λ_ _=>dB ab) λa b=>[b=a]
def T3:dH X 12 Q4:=.qn λa b h=>by have:b=a:=h;subst this;exact Hp _
abbrev sB(p:cW):bm:=.cells 68 [.c (.int .i64 p.1),.c (.sl ae 2 p.2.length (cL.fn p.2))]
def Hq(x:cW)(c:x.2.length<=4000000):Ev X 33 [F4 x,F4 x] [] (dB ab) []:=by
 refine Ev.bQ Tryz.func33 rfl λb=>?_;have a:bR X [(13,NG)]:=.cons Q2 .nil;refine aO a [(10,ae),(18,ae)] rfl (by simp) ?_;refine AK.bS 2 (λi=>i<=x.2.length) (λi:Nat=>[(2,.e (.one (.ptr 0 0))),(3,.e (.one (.ptr 1 0))),(5,dI i)]) (λ_=>[sB x,sB x]) (λi=>x.2.length-i) 0 rfl (by simp) rfl (by simp) rfl (by omega) ?_;intro i hi;by_cases h:i<x.2.length
 .refine aZ a [(24,ab),(39,ae),(53,ab)] rfl ?_ (AK.aQ (i+1) rfl ?_ ?_ ?_ ?_)
  .simp only[ar,bt,jS,er,ny,bh,aC,aB];and_intros<;>first|exact cI.au _|omega
  .simp
  .simp
  .grind
  .omega
 .refine aZ a [(24,ae)] rfl (by simp;omega) (AK.leaveD rfl rfl ?_);exact cu a rfl aq (AK.bq rfl)
abbrev T4:dv:=nt (BV cL) (BV cL) (λ_ _=>dB ab) λa b=>[b=a,b.2.length<=4000000]
def W1:dH X 33 T4:=.qn λa b h=>by obtain⟨rfl,c⟩:b=a/\_:=h;exact Hq _ c
abbrev NH(s:bw):bm:=.cells 27 [.c (.sl ae 2 s.1.length (cP.fn s.1)),.c (.sl ae 2 s.2.1.length (cX.fn s.2.1)),.c (.sl ae 2 s.2.2.length (cH.fn s.2.2))]
def n7(s:bw)(b:gF s):Ev X 18 [l4 s,l4 s] [] (dB ab) []:=by
 refine Ev.bQ Tryz.func18 rfl λd=>?_;have a:bR X [(14,Q3),(12,Q4),(33,T4)]:=.cons T2 (.cons T3 (.cons W1 .nil));have j:=b.p;have f:=b.sn;refine aZ a [(13,ae),(21,ae),(28,ab)] rfl ?_ ?_
 .simp only[ar,bt,jS,er,ny,bh,aC,aB];and_intros<;>first|exact cH.au _|omega
 refine AK.bS 2 (λi=>i<=s.1.length) (λi:Nat=>[(2,.e (.one (.ptr 0 0))),(3,.e (.one (.ptr 1 0))),(5,dI i)]) (λ_=>[NH s,NH s]) (λi=>s.1.length-i) 0 rfl (by simp) rfl (by simp) rfl (by omega) ?_;intro i hi;by_cases h:i<s.1.length
 .refine aZ a [(35,ab),(48,ab)] rfl ?_ (AK.aQ (i+1) rfl ?_ ?_ ?_ ?_)
  .simp only[ar,bt,bh,aC,aB];and_intros<;>first|exact ef.au _|omega
  .simp
  .simp
  .grind
  .omega
 refine aZ a [(35,ae)] rfl (by simp;omega) (AK.leaveD rfl rfl ?_);refine cu a rfl aq ?_;refine AK.bS 2 (λi=>i<=s.2.1.length) (λi:Nat=>[(2,.e (.one (.ptr 0 0))),(3,.e (.one (.ptr 1 0))),(6,dI i)]) (λ_=>[NH s,NH s]) (λi=>s.2.1.length-i) 0 rfl (by simp) rfl (by simp) rfl (by omega) ?_;intro i hi;by_cases h:i<s.2.1.length
 .have g:=(b.s2 _ (gA h (0,[]))).1;have c:s.2.1.getD (i:Int).toNat cX.b8=s.2.1.getD i (0,[]):=by grind
  refine aZ a [(54,ab),(67,ab)] rfl ?_ (AK.aQ (i+1) rfl ?_ ?_ ?_ ?_)
  .simp only[ar,bt,c,cL.list_fn,bh,aC,aB];and_intros<;>first|exact cL.au _|omega
  .simp
  .simp
  .grind
  .omega
 refine aZ a [(54,ae)] rfl (by simp;omega) (AK.leaveD rfl rfl ?_);exact cu a rfl aq (AK.bq rfl)
def Q9(l:List bu):Ev X 40 [cF.sl l,cF.sl l] [] (dB ab) []:=by
 refine Ev.bQ Tryz.func40 rfl λa=>?_;have b:=a.sl 0 rfl;refine aY [(10,ae)] rfl (by simp) ?_;refine AK.bS 0 (λi=>i<=l.length) (λi:Nat=>[(0,cF.sl l),(1,cF.sl l),(5,dI i)]) (λ_=>[]) (λi=>l.length-i) 0 rfl (by simp) rfl (by simp) rfl (by omega) ?_;intro i hi;by_cases h:i<l.length
 .refine bE [(14,ab),(25,ae)] rfl ?_ (AK.aQ (i+1) rfl ?_ ?_ ?_ ?_)
  .simp[bt,h];omega
  .simp
  .simp
  .show i+1<=_;omega
  .omega
 .refine bE [(14,ae)] rfl (by simp;omega) (AK.leaveD rfl rfl ?_);exact c6 rfl aq (AK.bq rfl)
end
def yN{l:List Int}:∀{k:Nat},(jM l k).length=k->∀i,1<=i->i<k->l.getD i 0≠l.getD (i-1) 0
 |0,_,i,_,h=>by omega
 |k+1,h,i,a,c=>by
  have d:=ss l k;rw[jM]at h;split at h
  .omega
  .rename_i b;simp only[bT,eb]at h;by_cases e:i=k
   .grind
   .exact yN (k:=k) (by omega) i a (by omega)
def AG(l:List Int):(mn l).Pairwise λx y=>x<=y:=by have:=List.pairwise_mergeSort (le:=λx y:Int=>decide (x<=y)) (λa b c e d=>by grind) (λa b=>by grind) l;exact this.imp λh=>by grind
def xl(l:List Int):(mn l).Perm l:=List.mergeSort_perm _ _
def AB(l:List Int):(dO (mn l)).length=l.length↔l.Nodup:=by
 rw[<-gL l,<-(xl l).nodup_iff];have c:=AG l;generalize mn l=s at *;have a:∀{i:Nat} (h:i<s.length),s.getD i 0=s[i]:=λ{i} h=>by grind
 constructor
 .intro h;have f:=yN h;refine List.Pairwise.imp (R:=λx y=>x<y) (λh e=>by omega) (ll.2 λi j hi hj W8=>?_);have b:=ll.1 c;have d:=f j (by omega) hj;rw[a hj,a (by omega)]at d;have g:=b (j-1) j (by omega) hj (by omega);by_cases e:i=j-1
  .grind
  .have:=b i (j-1) hi (by omega) (by omega);omega
 .intro h;unfold dO;rw[ni (ba _),cB];grind[List.pairwise_iff_getElem]
def yO(n m:Int):∀(l:List Int)(a:List Int)(b:Bool),(b=ab->n∈a) ->
  ((m∈(l.foldl (iC n) (a,b)).1∨(m=n/\(l.foldl (iC n) (a,b)).2=ae))↔((m∈a∨(m=n/\b=ae))∨m∈l))
 |[],a,b,_=>by simp
 |y::l,a,b,h=>by
  rw[jq];have one:∀a' b',iC n (a,b) y=(a',b')->(b'=ab->n∈a')/\((m∈a'∨(m=n/\b'=ae))↔((m∈a∨(m=n/\b=ae))∨m=y)):=λa' b' e=>by unfold iC at e;grind
  cases d:iC n (a,b) y with
  |mk a' b' =>
   obtain⟨f,c⟩:=one a' b' d;rw[yO n m l a' b' f,c,eY,or_assoc]
def K3{l:List Int}{n m:Int}:m∈jK l n↔m∈l∨m=n:=by have:=yO n m l [] ae (by simp);unfold jK;grind
def tz{m:Int}:∀{l a:List Int},m∈l.foldl jK a↔m∈a∨m∈l
 |[],a=>by simp
 |x::l,a=>by rw[jq,tz,K3,eY,or_assoc]
def EL{l:List gK}{m:Int}:m∈fw l↔m∈cd l:=by unfold fw;rw[tz];simp
def yP{m:Int}:∀{l:List cW}{a:List Int},m∈l.foldl (λout x=>(fw x.2).foldl jK out) a↔m∈a∨∃x∈l,m∈cd x.2
 |[],a=>by simp
 |x::l,a=>by rw[jq,yP,tz,EL,or_assoc];simp
def qg{l:List cW}{m:Int}:m∈fx l↔∃x∈l,m∈cd x.2:=by unfold fx;rw[yP];simp
def CN{l:List Int}{m:Int}:∀{j:Nat},j<=l.length->(m∈jM l j↔m∈l.take j)
 |0,_=>by simp[jM]
 |j+1,h=>by
  have c:=CN (l:=l) (m:=m) (j:=j) (by omega);rw[jM,bx (by omega) 0];split
  .rename_i b;rw[c,ff];constructor
   .exact .inl
   .rintro(a|a)
    .exact a
    .simp only[iX]at a;subst a;rw[b.2,ah,bn (by omega)];exact ln.2 ⟨j-1,by simp;omega,by simp⟩
  grind
def xm{x:cW}{m:Int}:m∈gY x↔m∈cd x.2:=by unfold gY dO;rw[CN (ba _),cB];exact(xl _).mem_iff
def HM{l:List cW}{p:Int->Bool}:(fx l).all p=(bg l.length).all λi=>!(gY (l.getD i (0,[]))).any λn=>!p n:=by
 rw[nF,List.all_eq_true,cK];constructor
 .intro h i hi;rw[hI,List.any_eq_false];intro n a;have:=h n (qg.2 ⟨_,iy hi,xm.1 a⟩);simp[this]
 .intro h n a;obtain⟨x,c,d⟩:=qg.1 a;obtain⟨i,hi,rfl⟩:=ln.1 c;have b:=h i hi;rw[ah,bn hi,gx,hI,List.any_eq_false]at b;simpa using b n (xm.2 d)
def ve{l:List α}(h:i<l.length)(d:α):l.getD i d=l[i]:=by grind
def vf{f:α->Int}{d:α}{l:List α}:(∀i,i<l.length->xc f d l i=ab)↔l.Pairwise λx y=>f x<f y:=by
 constructor
 .intro h;have key:∀n i j (hi:i<l.length) (a:j<l.length),j=i+n->0<n->f l[i]<f l[j]:=by
   intro n;induction n with
   |zero=>grind
   |succ n g =>
    intro i j hi a b _;have c:=h j a;rw[mm (by omega),decide_eq_true_iff,ve (by omega),ve a]at c;by_cases e:n=0
    .subst e;grind
    grind
  exact ll.2 λi j hi a b=>key (j-i) i j hi a (by omega) (by omega)
 .intro h i hi;by_cases e:i=0
  .subst e;rfl
  .rw[mm e,decide_eq_true_iff,ve (by omega),ve hi];exact(ll.1 h) (i-1) i (by omega) hi (by omega)
def su{l:List α}{p:α->Bool}{d:α}:(∀i,i<l.length->p (l.getD i d)=ab)↔∀x∈l,p x=ab:=by grind[List.mem_iff_getElem]
structure Gm(k:Int)(p:bo):Prop where
 no:1<=p.1/\p.1<=99
 key:cD k=ab
 len:1<=p.2.length/\p.2.length<=4
 rt:∀x∈p.2,right k x=ab
 xc:p.2.Pairwise λx y=>x.1<y.1
def xn{k:Int}{p:bo}:jc k p=ab↔Gm k p:=by
 rw[pn];simp only[bJ,bh,cK];have e:(∀i,i<p.2.length->iB k p i=ab)↔(∀x∈p.2,right k x=ab)/\p.2.Pairwise λx y=>x.1<y.1:=by
  rw[<-su (d:=(0,[])),<-vf (f:=λx:db=>x.1) (d:=(0,[]))];constructor
  .intro h;exact⟨λi hi=>by have:=h i hi;simp only[iB,bJ]at this;exact this.1,λi hi=>by have:=h i hi;simp only[iB,bJ]at this;exact this.2⟩
  .intro h i hi;simp only[iB,bJ];exact⟨h.1 i hi,h.2 i hi⟩
 rw[e];constructor
 .rintro⟨⟨⟨j,c⟩,b⟩,g,a⟩;exact⟨j,c,b,g,a⟩
 .rintro⟨j,c,b,g,a⟩;grind
structure AH(k:Int)(s:bw):Prop where
 pk:∀p∈s.1,Gm k p
 pa:s.1.Pairwise λp q=>p.1<q.1
 nd:(bP s.1).Nodup
 sn:∀x∈s.2.1,(1<=x.1/\x.1<=20)/\(cj k x s.1).isSome=ab
 sa:s.2.1.Pairwise λx y=>x.1<y.1
 key:cD k=ab
 log:oo s.2.2=ab
 len:s.1.length<=20
def uf{k:Int}{s:bw}:fJ k s=ab↔AH k s:=by
 unfold fJ;simp only[bJ,bh,cK];have o:(∀i,i<s.1.length->lS k s.1 i=ab)↔(∀p∈s.1,Gm k p)/\s.1.Pairwise λp q=>p.1<q.1:=by
  rw[<-vf (f:=λp:bo=>p.1) (d:=(0,[]))];have:(∀p∈s.1,Gm k p)↔∀p∈s.1,jc k p=ab:=⟨λh p b=>xn.2 (h p b),λh p b=>xn.1 (h p b)⟩
  rw[this,<-su (d:=(0,[]))];constructor
  .intro h;exact⟨λi hi=>by have:=h i hi;simp only[lS,bJ]at this;exact this.1,λi hi=>by have:=h i hi;simp only[lS,bJ]at this;exact this.2⟩
  .intro h i hi;simp only[lS,bJ];grind
 have r:(∀i,i<s.2.1.length->jJ k s i=ab)↔(∀x∈s.2.1,(1<=x.1/\x.1<=20)/\(cj k x s.1).isSome=ab)/\s.2.1.Pairwise λx y=>x.1<y.1:=by
  rw[<-vf (f:=λp:cW=>p.1) (d:=(0,[]))];have:(∀x∈s.2.1,(1<=x.1/\x.1<=20)/\(cj k x s.1).isSome=ab)↔∀x∈s.2.1,(decide (1<=x.1/\x.1<=20)&&(cj k x s.1).isSome)=ab:=by grind
  rw[this,<-su (d:=(0,[]))];constructor
  .intro h;exact⟨λi hi=>by have:=h i hi;simp only[jJ,bJ]at this⊢;grind,λi hi=>by have:=h i hi;simp only[jJ,bJ]at this;exact this.1.2⟩
  .intro h i hi;have a:=h.1 i hi;simp only[jJ,bJ]at a⊢;grind
 rw[o,r];constructor
 .rintro⟨⟨⟨⟨⟨⟨a,j⟩,c⟩,n,e⟩,m⟩,g⟩,l⟩;exact⟨a,j,c,n,e,m,g,l⟩
 .rintro⟨a,j,c,n,e,m,g,l⟩;grind
structure mK(k:Int)(w:br):Prop extends AH k w.1 where
 mk':∀x∈w.1.2.1,∀n∈cd x.2,n∈w.2.1
 lp:∀n∈w.2.2,∃p∈w.1.1,p.1=n
 la:w.2.2.Pairwise λx y=>x<y
def gf{k:Int}{w:br}:dz k w=ab↔mK k w:=by
 unfold dz;simp only[bJ,uf,cK];have l:(fx w.1.2.1).all (λn=>w.2.1.contains n)=ab↔∀x∈w.1.2.1,∀n∈cd x.2,n∈w.2.1:=by
  rw[List.all_eq_true];constructor
  .intro h x c n a;simpa using h n (qg.2 ⟨x,c,a⟩)
  .intro h n a;obtain⟨x,c,a⟩:=qg.1 a;grind
 have m:(∀i,i<w.2.2.length->lT w.1.1 w.2.2 i=ab)↔(∀n∈w.2.2,∃p∈w.1.1,p.1=n)/\w.2.2.Pairwise λx y=>x<y:=by
  rw[<-vf (f:=λn:Int=>n) (d:=0)];have:(∀n∈w.2.2,∃p∈w.1.1,p.1=n)↔∀n∈w.2.2,(w.1.1.any λp=>p.1==n)=ab:=by simp
  rw[this,<-su (d:=0)];constructor
  .intro h;exact⟨λi hi=>by have:=h i hi;simp only[lT,bJ]at this;exact this.1,λi hi=>by have:=h i hi;simp only[lT,bJ]at this;exact this.2⟩
  .intro h i hi;simp only[lT,bJ];grind
 rw[l,m];constructor
 .rintro⟨⟨j,e,b⟩,g⟩;exact⟨g,j,e,b⟩
 .rintro⟨g,j,e,b⟩;grind
def eu(no:Int)(ms:List Int)(p:bo):bo:=if p.1=no then ck p ms else p
def cp(no:Int)(ms:List Int)(ps:List bo):List bo:=(ps.map (eu no ms)).filter λp=>!p.2.isEmpty
def eC(w:br):br:=match w.2.2 with
 |[]=>w
 |no::r=>((cp no w.2.1 w.1.1,w.1.2),w.2.1,r)
def HN{l:List db}{ms:List Int}{n:Int}(h:n∈ms):(l.filter λx=>ms.contains x.1).find? (λx=>x.1==n)=l.find? (λx=>x.1==n):=by grind
def AI{k no:Int}{ms:List Int}{p:bo}{n:Int}(h:n∈ms):dx k (eu no ms p) n=dx k p n:=by
 unfold eu;split
 .simp only[dx,ck,HN h]
 .rfl
def q8{k no:Int}{ms:List Int}{n:Int}(h:n∈ms):∀ps:List bo,di k (cp no ms ps) n=di k ps n
 |[]=>rfl
 |p::ps=>by
  have c:=q8 (k:=k) (no:=no) h ps;have b:=AI (k:=k) (no:=no) (p:=p) h;unfold cp di at *;rw[kZ,rv];split
  .grind
  .rename_i a;have a:(eu no ms p).2=[]:=by grind
   have:dx k p n=af:=by rw[<-b];unfold dx;grind
   grind
def xo{k:Int}{ps qs:List bo}{ns:List Int}(h:∀n∈ns,di k ps n=di k qs n):dJ k ps ns=dJ k qs ns:=by unfold dJ;grind[List.map_congr_left]
def pq{k:Int}{ps qs:List bo}{x:cW}(h:∀n∈cd x.2,di k ps n=di k qs n):cj k x ps=cj k x qs:=by
 have c:∀y∈x.2,fileOf k ps y=fileOf k qs y:=λy a=>by unfold fileOf;rw[xo λn b=>h n (List.mem_flatMap.2 ⟨y,a,b⟩)]
 unfold cj c8;grind[List.map_congr_left]
theorem qh{no:Int}{ms:List Int}{p:bo}:(eu no ms p).1=p.1:=by unfold eu ck;split<;>rfl
theorem ra{no:Int}{ms:List Int}{p:bo}:List.Sublist (eu no ms p).2 p.2:=by unfold eu ck;split<;>simp
def xp{no:Int}{ms:List Int}{ps:List bo}{q:bo}(h:q∈cp no ms ps):∃p∈ps,q=eu no ms p/\q.2≠[]:=by unfold cp at h;grind
def xq{no:Int}{ms:List Int}:∀ps:List bo,List.Sublist (bP (cp no ms ps)) (bP ps)
 |[]=>.refl _
 |p::ps=>by
  have a:=xq (no:=no) (ms:=ms) ps;unfold cp bP at *;rw[kZ,rv,rq];split
  .rw[rq];exact(ra.map _).append a
  grind
def mK.step{k:Int}{w:br}(h:mK k w):mK k (eC w):=by
 unfold eC;split
 .exact h
 rename_i no r hl;have b:=h.lp;have e:=h.la;rw[hl]at b e;have m:∀x∈w.1.2.1,cj k x (cp no w.2.1 w.1.1)=cj k x w.1.1:=λx c=>pq λn i=>q8 (h.mk' x c n i) _;refine⟨⟨λq j=>?_,?_,h.nd.sublist (xq _),λx c=>?_,h.sa,h.key,h.log,?_⟩,h.mk',λn i=>?_,(qD.1 e).2⟩
 .obtain⟨p,f,rfl,d⟩:=xp j;have a:=h.pk p f;have g:=ra (no:=no) (ms:=w.2.1) (p:=p);refine⟨by rw[qh];exact a.no,a.key,⟨zd.2 d,fG g.length_le a.len.2⟩,λx c=>a.rt x (g.subset c),a.xc.sublist g⟩
 .show (cp no w.2.1 w.1.1).Pairwise _;unfold cp;refine List.Pairwise.filter _ (List.pairwise_map.2 (h.pa.imp λl=>?_));grind[qh]
 .have:=h.sn x c;grind
 .show (cp no w.2.1 w.1.1).length<=20;have:(cp no w.2.1 w.1.1).length<=w.1.1.length:=by unfold cp;grind
  exact fG this h.len
 .obtain⟨p,f,rfl⟩:=b n (mx _ i);have d:p.1≠no:=by grind[List.pairwise_cons]
  refine⟨p,?_,rfl⟩;show p∈cp no w.2.1 w.1.1;unfold cp;refine nE.2 ⟨nG.2 ⟨p,f,by unfold eu;grind⟩,?_⟩;have:=(h.pk p f).len.1;grind
structure Ud(x:bo):Prop where
 ex:∃no ps,1<=no/\no<=99/\0<ps.length/\ps.length<=4/\(∀q∈ps,bH q=ab)/\x=jG no 7 ps
structure Ue(x:cW):Prop where
 ex:∃no t,1<=no/\no<=20/\cE t=ab/\x=fU no 7 t
structure D7(st:bw):Prop where
 p:∀x∈st.1,Ud x
 pl:st.1.length<=20
 s:∀x∈st.2.1,Ue x
 xc:st.2.1.Pairwise λa b=>a.1<b.1
 h:∀x∈st.2.2,(1<=x.1/\x.1<=2)/\1<=x.2/\x.2<=20
 hl:st.2.2.length<=9
 Rl:st.1.Pairwise λa b=>a.1<b.1
def jg{t:List bu}(h:cE t=ab):wN t:=by
 obtain⟨k,_,_,n⟩:=mo.1 h;have j:∀f∈t,b9 f.2=ab/\f.2.length<=40:=λf d=>by have:=(k f d).2;simp only[dN,bJ,bh]at this;grind
 refine⟨by omega,λf d=>⟨(j f d).1,by grind⟩,?_⟩;have:∀l:List bu,(∀f∈l,f.2.length<=40)->(j1 l).length<=40*l.length:=by
  intro l;induction l with
  |nil=>intro _;simp[j1]
  |cons f r m =>
   intro e;have a:=m λg i=>e g (mx _ i);have b:=e f oE;have c:=j4 f.2;simp only[j1,rq,bT,en]at a⊢;omega
 grind
theorem CM(no k:Int)(ps:List Bs):(jG no k ps).2.length=ps.length:=Ge k ps
def Ud.len{x:bo}(h:Ud x):1<=x.2.length/\x.2.length<=4:=by obtain⟨no,ps,_,_,b,a,_,rfl⟩:=h.ex;grind[CM]
def Ud.no{x:bo}(h:Ud x):1<=x.1/\x.1<=99:=by obtain⟨no,ps,h1,h2,_,_,_,rfl⟩:=h.ex;exact⟨h1,h2⟩
def Ue.no{x:cW}(h:Ue x):1<=x.1/\x.1<=20:=by obtain⟨no,t,h1,h2,_,rfl⟩:=h.ex;exact⟨h1,h2⟩
def Ue.len{x:cW}(h:Ue x):x.2.length<=6/\∀y∈x.2,y.2.length<=4000000:=by obtain⟨no,t,_,_,b,rfl⟩:=h.ex;have c:=lP b;refine⟨by simpa[fU]using c,λy a=>?_⟩;simp only[fU,nG]at a;obtain⟨f,d,rfl⟩:=a;have:=((jg b).uy f d).2;have:=j4 f.2;simp only[ua,jT];omega
def sr{l:List cW}:∀(a:Int),l.Pairwise (λa b=>a.1<b.1)->(∀x∈l,a<=x.1/\x.1<=20)->(l.length:Int)<=max 0 (21-a):=by
 induction l with
 |nil=>grind
 |cons x r g =>
  intro a f c;obtain⟨h,e⟩:=qD.1 f;have i:=c x oE;have:=g (x.1+1) e λy d=>⟨by grind,(c y (mx _ d)).2⟩
  grind
def D7.sl{s:bw}(h:D7 s):s.2.1.length<=20:=by have:=sr 1 h.xc λx a=>(h.s x a).no;omega
def D7.size{s:bw}(h:D7 s):gF s:=by have h1:=h.pl;have h2:=h.sl;have c:=h.hl;refine⟨by omega,λp b=>by have:=(h.p p b).len;omega,by omega,λx a=>?_,by omega⟩;have:=(h.s x a).len;grind
def D7.num{s:bw}(h:D7 s):NC s :=
 ⟨λx a=>by have:=(h.p x a).no;omega,λx a=>by have:=(h.s x a).no;omega,λx a=>by have:=(h.h x a).2;omega⟩
def D7.eF{s:bw}(h:D7 s):(eF s.1).length<=100000:=by
 have:∀l:List bo,(∀x∈l,x.2.length<=4)->(R1.eF l).length<=4*l.length:=by
  intro l;induction l with
  |nil=>intro _;simp[R1.eF]
  |cons f r e =>
   intro hl;have a:=e λg c=>hl g (mx _ c);have b:=hl f oE;simp only[R1.eF,rq,bT,jT,en]at a⊢;omega
 have:=this s.1 λx d=>(h.p x d).len.2;have:=h.pl;omega
def D7.nil:D7 ([],[],[]):=⟨by simp,by simp,by simp,by simp,by simp,by simp,by simp⟩
def tw(k:Int):∀(f:Nat) (no:Int)(ps:List Bs),(∀q∈ps,bH q=ab)->∀x∈gV k f no ps,∃a qs,no<=a/\a<no+(gV k f no ps).length/\0<qs.length/\qs.length<=4/\(∀q∈qs,bH q=ab)/\x=jG a k qs
 |0,_,_,_,x,b=>by simp[gV]at b
 |f+1,no,ps,d,x,b=>by
  simp only[gV]at b⊢;split at b
  .rename_i h;rw[bc h];rcases eY.1 b with rfl|b
   .grind
   .obtain⟨a,qs,i,g,e⟩:=tw k f (no+1) (ps.drop 4) (λq c=>d q (y9 c)) x b;grind
  grind
def yM{l:List α}(h:l.length≠0)(d:α):l.getD (l.length-1) d∈l:=gA (by omega) d
def D7.fO{s:bw}(h:D7 s):1<=fO s:=by
 unfold R1.fO;split
 .omega
 .rename_i a;have:=(h.p _ (yM a (0,[]))).no;omega
def qf(k:Int):∀(f:Nat) (no:Int)(ps:List Bs),∀x∈gV k f no ps,no<=x.1
 |0,_,_,x,a=>by simp[gV]at a
 |f+1,no,ps,x,a=>by
  simp only[gV]at a;split at a
  .rcases eY.1 a with rfl|a
   .exact rB _
   .have:=qf k f (no+1) (ps.drop 4) x a;omega
  grind
def qZ(k:Int):∀(f:Nat) (no:Int)(ps:List Bs),(gV k f no ps).Pairwise λa b=>a.1<b.1
 |0,_,_=>by simp[gV]
 |f+1,no,ps=>by
  simp only[gV];split
  .refine qD.2 ⟨λx c=>?_,qZ k f (no+1) (ps.drop 4)⟩;have:=qf k f (no+1) (ps.drop 4) x c;show no<x.1;omega
  .simp
def D7.K1{s:bw}(h:D7 s):∀x∈s.1,x.1<R1.fO s:=by
 unfold R1.fO;split
 .grind
 .rename_i e;intro x c;obtain⟨i,hi,rfl⟩:=dL c;have a:s.1.getD (s.1.length-1) (0,[])=s.1[s.1.length-1]:=by grind
  rw[a];rcases cM i (s.1.length-1)with b|d
  .have:=ll.1 h.Rl i (s.1.length-1) hi (by omega) b;omega
  grind
def D7.K2{s:bw}(h:D7 s):1<=ey s/\∀x∈s.2.1,x.1<ey s:=by
 have hb:=pb s.2.2 h.num.h;unfold ey;split
 .grind
 .rename_i e;refine⟨by omega,λx c=>?_⟩;obtain⟨i,hi,rfl⟩:=dL c;have a:s.2.1.getD (s.2.1.length-1) (0,[])=s.2.1[s.2.1.length-1]:=by grind
  rw[a];rcases cM i (s.2.1.length-1)with b|d
  .have:=ll.1 h.xc i (s.2.1.length-1) hi (by omega) b;omega
  grind
def D7.save{s:bw}{t:List bu}{by_:Int}(h:D7 s)(i:cE t=ab)(hb:1<=by_/\by_<=2)(j:fQ 7 s t=ae):D7 (ga 7 s by_ t):=by
 simp only[fQ,Bool.or_eq_false_iff,bM]at j;obtain⟨o,q,r,m⟩:=j;have n:=h.fO;obtain⟨e,f⟩:=h.K2;refine⟨λx c=>?_,by simp only[ga,bT];omega,λx c=>?_,?_,λx c=>?_,by simp only[ga,bT,eb];omega,?_⟩
 .simp only[ga]at c;rcases ff.1 c with c|c
  .exact h.p x c
  .obtain⟨d,qs,a1,a2,a3,a4,a5,a6⟩:=tw 7 _ _ _ (qW (k:=7) (l:=indexOf s.1) (jg i)).1 x c;have a2:d<R1.fO s+(wL 7 s t).length:=a2;exact⟨d,qs,by omega,by omega,a3,a4,a5,a6⟩
 .simp only[ga]at c;rcases ff.1 c with c|c
  .exact h.s x c
  .rw[iX]at c;exact⟨ey s,t,e,by omega,i,c⟩
 .simp only[ga];rw[uJ];refine⟨h.xc,by simp,λa g b hb=>?_⟩;rw[iX]at hb;subst hb;exact f a g
 .simp only[ga]at c;rcases ff.1 c with c|c
  .exact h.h x c
  grind
 .simp only[ga];rw[uJ];refine⟨h.Rl,qZ _ _ _ _,λa g b hb=>?_⟩;have h1:=h.K1 a g;have h2:=qf _ _ _ _ b hb;omega
section
variable {X:Cx ag}[X.jw]
abbrev O5:List bu:=[([97],[104,101,108,108,111])]
def Kt:cE O5=ab:=by decide +kernel
abbrev om(k:Nat):={q:List bu×Nat // cE q.1=ab/\k<=q.2/\q.2<=k+400}
def Gb(m:Nat)(b:Nat->Int)(g:Bytes b)(k:Nat)(d:k<=50000)(j:m<=1048576):
  dW (ι:=om k) X 52 [.e (.one (.ptr 0 0))] [mJ m b k] (λq=>cF.sl q.1.1) (λq=>[mJ m b q.1.2]):=by
 refine dW.qy Tryz.func52 rfl rfl rfl λh=>?_;refine bA rfl aq ?_;refine AK.cP (ND m b g k d j) [0] rfl (λ_=>rfl) ?_;rintro⟨t,bf,xs,k1,fl,l,c,a⟩;refine aY [(1000002,ab)] rfl aq ?_;refine AK.vp 3 1 (cF.fn t) rfl rfl fl.rd ?_;refine bA rfl aq ?_;refine AK.cQ (yC t) [] rfl ?_;cases f:cE t with
 |true =>
  refine bA rfl aq (AK.l5 ⟨(t,k1),f,c,a⟩ (AK.dY [0] rfl ?_ rfl rfl rfl iq));simp
 |false =>
  refine bA rfl aq (AK.l5 ⟨(O5,k1),Kt,c,a⟩ (AK.dY [0] rfl ?_ rfl rfl rfl iq));refine⟨rfl,λi hi=>?_⟩;have:i=0:=by grind
  subst this;rfl
end
end R1
def dW.die{X:Cx P}{f:aM}{args:List D}{E:Nat}{b:Nat->List C}{w:BP}{es:ι->Nat->List C}{m:ι->Nat}(h:dW X f args [.buf E k n b] (λ_=>.e (.one (.bp 0 w))) (λi=>[.buf E k (m i) (es i)])):Ev X f args [.buf E k n b] (.e (.one (.bp 0 w))) [.dead] :=
 ⟨h.1,λs vs hr hh S cs hS=>h.2 s vs hr hh S cs λi fr v s' hl lY jL st=>hS fr v s' hl (by
  obtain⟨lv,h1,_,_⟩:gD _ _ _ (.bp 0 w):=lY;exact(⟨lv,h1,by simp,λ_ _ _ _ hb=>by grind⟩:gD [.dead] s' v (.bp 0 w))) jL.kg
  ⟨st.size,st.keep,st.mem,st.iI,st.uP,λl B L a c=>by
   obtain⟨B',L',h1,h2,d⟩:=st.box l B L a c;cases l with
   |zero=>simp at a;subst a;exact⟨.dead,L',rfl,h2,aq⟩
   |succ l=>grind,st.os,st.tape,st.output,st.own⟩⟩
namespace R1
variable {X:Cx ag}
def EF(h:sj):Ev X 75 [W4 h] [] (dB (gX h)) []:=by
 refine Ev.bQ Tryz.func75 rfl λb=>?_;have a:bR X []:=.nil;unfold gX;by_cases c1:h.1=1
 .by_cases c3:1<=h.2
  .exact aO a [(6,ab),(11,ab),(16,ab)] rfl (by simp[c1,c3]) (AK.bq rfl (by simp[c1,c3]))
  .exact aO a [(6,ab),(11,ab),(16,ae)] rfl (by simp[c1];omega) (AK.bq rfl (by simp[c3]))
 .by_cases c2:h.1=2
  .by_cases c3:1<=h.2
   .exact aO a [(6,ae),(11,ab),(16,ab)] rfl (by simp[c2,c3]) (AK.bq rfl (by simp[c2,c3]))
   .exact aO a [(6,ae),(11,ab),(16,ae)] rfl (by simp[c2];omega) (AK.bq rfl (by simp[c3]))
  .exact aO a [(6,ae),(11,ae),(16,ae)] rfl (by simp[c1,c2]) (AK.bq rfl (by
    have:¬(1<=h.1/\h.1<=2):=by omega
    simp only[ar,gH this];simp))
def HE(h:sj):Ev X 74 [W4 h] [] (dB (!gX h)) []:=by refine Ev.bQ Tryz.func74 rfl λb=>?_;have a:bR X [(75,kF U4 (λh=>dB (gX h)) λ_=>[])]:=.cons (.oz λh _=>EF h) .nil;exact bX a rfl aq (AK.bq rfl)
def HF(l:List sj):oo l=(decide (l.length<=9)&&!l.any λh=>!gX h):=by
 have:(bg l.length).all (λi=>gX (l.getD i (0,0)))=!l.any λh=>!gX h:=by rw[nF,cK,hI,List.any_eq_false];grind[List.mem_iff_getElem]
 rw[oo,this,Bool.and_comm]
def HG(l:List sj):Ev X 38 [cH.sl l] [] (dB (oo l)) []:=by
 refine Ev.bQ Tryz.func38 rfl λd=>?_;have a:=KE (X:=X) l 74 (λh=>!gX h) λx _=>HE x;have b:bR X [(73,mH [cH.sl l,.e (.one (.c (.fn (.func 74) [] [])))] (dB (l.any λh=>!gX h)))]:=.cons (nZ a) .nil;rw[HF];by_cases h:l.length<=9
 .exact aO b [(6,ab)] rfl ⟨rfl,dc (by omega)⟩ (AK.bq rfl (by simp[h]))
 .exact aO b [(6,ae)] rfl (by simp;omega) (AK.bq rfl (by simp[gH h]))
def NY:dH X 38 vc:=.oz λl _=>HG l
def AA(p:bo)(f:p.2.length<=4000000):Ev X 94 [qo p] [] (cI.sl (p.2.map (·.1))) []:=by
 refine Ev.bQ Tryz.func94 rfl λd=>?_;refine aY [(1000002,ab)] rfl aq ?_;refine AK.ik 3 3 1 rfl rfl ?_;refine bA rfl aq ?_;refine AK.bS 2 (λi=>i<=p.2.length) (λi:Nat=>[(1,.e (.one (.ptr 0 0))),(3,.e (.one (.vec 1 1 i (cI.fn ((p.2.take i).map (·.1)))))),(7,ef.sl p.2),(8,dI p.2.length),(9,dI i)]) (λi=>[NR p,.vec 3 1 i (cI.fn ((p.2.take i).map (·.1)))]) (λi=>p.2.length-i) 0 rfl (by simp) rfl (by simp) rfl (by omega) ?_;intro i hi;by_cases h:i<p.2.length
 .have b:p.2.getD (i:Int).toNat ef.b8=fI p i:=by grind
  have a:(p.2.take (i+1)).map (·.1)=(p.2.take i).map (·.1)++[(fI p i).1]:=by grind[bx]
  have c:((p.2.take i).map (·.1)).length=i:=by grind
  have e:=cI.cm ((p.2.take i).map (·.1)) (fI p i).1;rw[c]at e;refine aY [(10,ab)] rfl ?_ (AK.aQ (i+1) rfl ?_ ?_ h (by omega))
  .simp only[ar,bt,show i3.bytes=8 from rfl];grind
  .rw[a];simp only[ar.cat,ar,b,aC,aB];and_intros<;>first|exact cq.same|exact e|rfl|omega
  .rw[a];simp only[ar.cat,ar,b,aC,aB];and_intros<;>first|exact cq.same|exact e|rfl|omega
 obtain rfl:i=p.2.length:=by omega
 rw[cB];refine aY [(10,ae)] rfl (by simp) (AK.leaveD rfl rfl ?_);exact bA rfl aq (AK.bq rfl)
abbrev CH:dv:=kF (BV ef) (λp=>cI.sl (p.2.map (·.1))) λp=>[p.2.length<=4000000]
def KX:dH X 94 CH:=.oz λp h=>AA p h
def HH(ps:List bo)(i:Nat):(bP (ps.take i)).length<=(bP ps).length:=by
 have:bP ps=bP (ps.take i)++bP (ps.drop i):=by unfold bP;grind[List.take_append_drop]
 grind
abbrev W6(l:List Int):D:=.e (.one (.bp 0 (.sl l.length 1 0 l.length)))
def CI(ps:List bo)(o:∀p∈ps,p.2.length<=4000000)(q:(bP ps).length<=4000000):Ev X 69 [cP.sl ps] [] (W6 (bP ps)) [HI (bP ps).length (bP ps)]:=by
 refine Ev.bQ Tryz.func69 rfl λm=>?_;have k:=m.sl 0 rfl;have c:bR X [(94,CH)]:=.cons KX .nil;refine aO c [(1000002,ab)] rfl aq ?_;refine AK.Qu 3 3 1 (cI.fn []) rfl ?_;refine bX c rfl aq ?_;refine AK.bS 1 (λi=>i<=ps.length) (λi:Nat=>[(3,.e (.one (.bp 0 (.sl (bP (ps.take i)).length 1 0 (bP (ps.take i)).length)))),(6,cP.sl ps),(7,dI ps.length),(8,dI i)]) (λi=>[HI (bP (ps.take i)).length (bP (ps.take i))]) (λi=>ps.length-i) 0 rfl (by simp[bP]) rfl (by simp[cq,bP]) rfl (by omega) ?_;intro i hi;by_cases h:i<ps.length
 .have g:ps.getD (i:Int).toNat cP.b8=ps.getD i (0,[]):=by grind
  have b:=xd h;have f:=HH ps (i+1);have l:=o _ (iy (d:=(0,[])) h);generalize ps.getD i (0,[])=p at *;rw[b]at f;generalize bP (ps.take i)=a at *;have e:=cI.KY a (p.2.map (·.1)) _ rfl;simp only[bT,jT]at f e;refine aO c [(9,ab)] rfl ?_ (AK.aQ (i+1) rfl ?_ ?_ h (by omega))
  .simp only[ar,g,bt,ef.list_fn,ef.au,jT,show i3.bytes=8 from rfl];grind
  .rw[b];simp only[ar.cat,ar,g,ef.list_fn,bT,jT,aC,aB];and_intros<;>first|exact cq.same|rfl|omega
  .rw[b];simp only[ar.cat,ar,g,ef.list_fn,bT,jT,aC,aB];grind
 obtain rfl:i=ps.length:=by omega
 rw[cB];refine aO c [(9,ae)] rfl (by simp) (AK.leaveD rfl rfl ?_);refine bX c rfl aq (AK.dY [0] rfl ?_ rfl rfl rfl (λj n=>absurd n (by simp)));simp
def HJ(ps:List bo)(b:∀p∈ps,p.2.length<=4000000)(a:(bP ps).length<=4000000):Ev X 69 [cP.sl ps] [] (cI.sl (bP ps)) [] :=
 Ev.FZ (σ1:=[]) (E:=3) (k:=1) (n:=(bP ps).length) (es:=cI.fn (bP ps)) (CI ps b a) rfl (by simp) rfl (ba _)
end R1
section
namespace R1
variable {X:Cx ag}[X.jw]
abbrev tk:bm:=.cells 27 [iN,iN,iN]
def d92(m:Nat)(b:Nat->Int)(k:Int)(s s':bw)(a c d:Bool):List bm :=
 match a,c,d with
 |false,ae,ae=>[mJ m b k,tk,th s]
 |true,ae,ae=>[mJ m b (k+1),tk,th s]
 |false,ab,ae=>[mJ m b k,tk,th s,tk]
 |true,ab,ae=>[mJ m b (k+1),tk,th s,tk]
 |false,ab,ab=>[mJ m b k,tk,th s,th s']
 |true,ab,ab=>[mJ m b (k+1),tk,th s,th s']
 |false,ae,ab=>[mJ m b k,tk,th s]
 |true,ae,ab=>[mJ m b (k+1),tk,th s]
abbrev x92(v:Int)(s s':bw)(t:List bu)(ok:Bool)(i:Nat):D:=[l4 s,.e (.one (.ptr 0 0)),dI v,dI (1+v),cF.sl t,R7 s' ok,R7 s' ok,l4 s',dB ok,.e (.one (.ptr 3 0)),.any,dB ok].getD i .any
abbrev StI(k:Nat):={q:bw×Nat // D7 q.1/\k<=q.2/\q.2<=k+1000}
abbrev f92(t:List bu)(n:Nat):Fr:=[(0,.e (.one (.ptr 0 0))),(2,.e (.one (.ptr 1 0))),(3,.e (.one (.ptr 2 0))),(4,cF.sl t),(5,dI n)]
set_option maxRecDepth 20000 in
def Ew(m:Nat)(b:Nat->Int)(o:Bytes b)(k:Nat)(hk:k<=40000)(l:m<=1048576):
  dW (ι:=StI k) X 48 [.e (.one (.ptr 0 0))] [mJ m b k] (λq=>l4 q.1.1) (λq=>[mJ m b q.1.2]):=by
 refine dW.mb tok Tryz.func48 rfl rfl rfl λhf=>?_;refine bA rfl aq ?_;refine AK.cP (Gb m b o k (by omega) l) [0] rfl (λ_=>rfl) ?_;rintro⟨⟨W,k1⟩,I,O,G⟩;simp only at I O G;refine bA rfl aq ?_;refine AK.cP (gv m b o k1 5 (by omega) l (by omega)) [0] rfl (λ_=>rfl) ?_;rintro⟨u,u0,u1⟩;refine bA rfl aq ?_;refine AK.bS 3 (λq:bw×List bu×Nat×Nat=>D7 q.1/\cE q.2.1=ab/\q.2.2.1<=4/\k<=q.2.2.2/\q.2.2.2+100*q.2.2.1<=k+900) (λq=>f92 q.2.1 q.2.2.1) (λq=>[mJ m b q.2.2.2,tk,th q.1]) (λq=>q.2.2.1) (([],[],[]),W,u.toNat,k1+1) rfl ?_ rfl ?_ rfl ⟨D7.nil,I,by simp only;omega,by simp only;omega,by simp only;omega⟩ ?_
 .simp only[ar.cat,ar,aC,aB];and_intros<;>first|exactλ_ _=>rfl|omega
 .simp
 rintro⟨s,t,n,f⟩ ⟨A,M,S,L,B⟩;simp only at A M S L B;by_cases hn:0<n
 .refine bE [(19,ab),(1000006,ab)] rfl (by simp only[ar,bh];omega) ?_;have hv:=pd m b f 2 (by omega);have Q:=tj (X:=X) 7 s (1+kI m b f 2) t (by decide) A.size A.num (jg M) A.eF;have K:D7 (if fQ 7 s t=ab then s else ga 7 s (1+kI m b f 2) t):=by
   cases R:fQ 7 s t with
   |true=>exact A
   |false=>exact A.save M (by omega) R
  generalize P:(if fQ 7 s t=ab then s else ga 7 s (1+kI m b f 2) t)=s' at *;have T:fQ 7 s t=ab->s'=s:=λh=>by rw[<-P,bc h]
  generalize fQ 7 s t=fu at *;have i:bR X [(50,U7),(80,mH [dI 7,l4 s,dI (1+kI m b f 2),cF.sl t] (R7 s' (!fu)))]:=.cons t50 (.cons (nZ Q) .nil);have r:ar [(f:Int)=(f:Int).toNat,uz b=uz (NF (uz b)),Bytes (NF (uz b)),(f:Int)<=4000000,m<=1048576,(1:Int)<=2,(2:Int)<=4000000]:=⟨rfl,rfl,o,by omega,l,by omega,(by decide:(2:Int)<=4000000)⟩
  have E:ar [bt .i64 (1+kI m b f 2)]:=by simp only[ar,bt];omega
  have v:ar [([dI 7,l4 s,dI (1+kI m b f 2),cF.sl t]:List D)=[dI 7,l4 s,dI (1+kI m b f 2),cF.sl t]]:=rfl;refine AK.flags fC (x92 (kI m b f 2) s s' t (!fu)) (vS (d92 m b f s s') 2 9 10) rfl rfl rfl rfl
   ⟨.PY tok i,
  .PY tok i,
  e9.e1 rfl rfl rfl rfl (λc d=>by cases c<;>cases d<;>exact eZ (ds:=[]) tok i (σ':=aa _) rfl r),
  .VU tok i E,
  .PY tok i,
  .VU tok i v,
  .PY tok i,
  .PY tok i,
  .PY tok i,
  e9.e2 rfl rfl rfl rfl rfl (λa=>by cases a<;>exact eZ (ds:=[]) tok i (σ':=aa _) rfl aq),
  e9.e3 rfl rfl rfl rfl rfl (λa=>by cases a<;>exact eZ (ds:=[]) tok i (σ':=aa _) rfl aq),
  .PY tok i,aq⟩ ?_
  intro D z;show AK X _ _ _ _ _ (d92 m b f s s' (D 2) (D 9) (D 10));rw[z 2 (by decide),z 9 (by decide),z 10 (by decide)];apply AK.join (f92 t n) [mJ m b (f+1:Nat),tk,th s',th s']
  .intro out;cases fu with
   |true =>
    obtain rfl:=T rfl;refine bE [(1000009,ab)] rfl aq ?_;exact out _ _ rfl (by simp)
   |false =>
    refine bE [(1000009,ab)] rfl aq ?_;exact out _ _ rfl (by simp)
  refine c6 rfl aq ?_;refine AK.cP (va m b o (f+1) (by omega) l) [0] rfl (λ_=>rfl) ?_;rintro⟨p,hp⟩;refine c6 rfl aq ?_;refine AK.cP (Gc m b o (f+1+1+1) (by omega) l) [0] rfl (λ_=>rfl) ?_;rintro⟨⟨x,H⟩,Z,N,F⟩;simp only at Z N F;refine c6 rfl aq ?_;refine AK.cQ (wO t p x) [] rfl ?_;have J:=Ex (t:=t) (p:=p) (x:=x);obtain⟨j,g⟩:∃j,j=if(dZ t p x).2=ab then(dZ t p x).1 else t:=⟨_,rfl⟩
  have y:cE j=ab:=by
   rw[g];split
   .rename_i h;exact J h
   .exact M
  apply AK.join (f92 j n) [mJ m b H,tk,th s',th s']
  .intro out;cases C:(dZ t p x).2 with
   |true =>
    rw[C,bc rfl]at g;rw[<-g];refine bE [(1000012,ab)] rfl aq ?_;exact out _ _ rfl (by simp)
   |false =>
    rw[C,aW (by simp)]at g;rw[g]at out;refine bE [(1000012,ab)] rfl aq ?_;exact out _ _ rfl (by simp)
  clear g;refine c6 rfl aq ?_;refine AK.cP (gv m b o H 3 (by omega) l (by omega)) [0] rfl (λ_=>rfl) ?_;rintro⟨w,w0,w1⟩;by_cases U:w=0
  .refine bE [(46,ab)] rfl (by simp[U]) ?_;refine AK.cP (va m b o (H+1) (by omega) l) [0] rfl (λ_=>rfl) ?_;rintro⟨p2,Y⟩;have V:=lP y;refine c6 rfl aq ?_;refine AK.cQ (Gd j p2 (by omega)) [] rfl ?_;refine c6 rfl ?_ (AK.aQ (s',lQ j p2,n-1,H+1+1+1) rfl ?_ ?_ ?_ ?_)
   .simp only[ar,bt];omega
   .simp only[ar.cat,ar,aC,aB];and_intros<;>first|exactλ_ _=>rfl|omega
   .simp
   .exact⟨K,Ku p2 y,by simp only;omega,by simp only;omega,by simp only;omega⟩
   .simp only;omega
  .refine bE [(46,ae)] rfl (by simp[U,bt];omega) (AK.aQ (s',j,n-1,H+1) rfl ?_ ?_ ?_ ?_)
   .simp only[ar.cat,ar,aC,aB];and_intros<;>first|exactλ_ _=>rfl|omega
   .simp
   .exact⟨K,y,by simp only;omega,by simp only;omega,by simp only;omega⟩
   .simp only;omega
 .refine bE [(19,ae)] rfl (by simp only[ar,bM];omega) (AK.leaveD rfl rfl ?_);refine c6 rfl aq ?_;refine AK.kV ⟨(s,f),A,L,by simp only;omega⟩ [0] rfl rfl rfl rfl rfl rfl rfl rfl ?_ rfl rfl rfl rfl iq;simp
end R1
end
namespace R1
section
variable {X:Cx ag}
def EG(s:bw):Ev X 34 [l4 s] [] (l4 s) []:=by refine Ev.mb Tryz.func34 rfl rfl rfl λb=>?_;refine bA rfl (by simp) ?_;refine AK.freeze 2 1 rfl rfl rfl ?_;exact AK.lD tok [] rfl (by simp) rfl rfl rfl (λj a=>absurd a (by simp))
abbrev KZ:dv:=kF No (λs=>l4 s) λ_=>[]
def Rg:dH X 34 KZ:=.oz λs _=>EG s
abbrev Ic(s:bw):bm:=.cells 71 [.c (.sl ae 2 s.1.length (cP.fn s.1)),.c (.sl ae 2 s.2.1.length (cX.fn s.2.1)),.c (.sl ae 2 s.2.2.length (cH.fn s.2.2))]
structure Pc(s:bw):Prop extends Pb s where
 pk:∀p∈s.1,p.2.length<=4000000
 nm:(bP s.1).length<=4000000
def yK(k:Int)(s:bw):Bool:=(bg s.1.length).all (lS k s.1)&&decide (s.1.length<=20)&&decide (bP s.1).Nodup
def EH(k:Int)(s:bw)(v:cD k=ab)(c:Pc s):Ev X 36 [l4 s,dI k] [] (dB (yK k s)) []:=by
 refine Ev.bQ Tryz.func36 rfl λG=>?_;have D:=c.pN;have z:=c.pk;have x:=HJ (X:=X) s.1 c.pk c.nm;have m:bR X [(68,F5)]:=.cons Np .nil;refine bX m rfl aq ?_;unfold yK;refine AK.bS 1 (λi=>i<=s.1.length/\∀j,j<i->lS k s.1 j=ab) (λi:Nat=>[(1,dI k),(2,.e (.one (.ptr 0 0))),(9,cP.sl s.1),(10,dI s.1.length),(11,dI i)]) (λ_=>[Ic s]) (λi=>s.1.length-i) 0 rfl (by simp) rfl (by simp) rfl ⟨by omega,by omega⟩ ?_;rintro i ⟨hi,a⟩;by_cases h:i<s.1.length
 .have w:s.1.getD i cP.b8=s.1.getD i (0,[]):=rfl;have t:s.1.getD (i-1) cP.b8=s.1.getD (i-1) (0,[]):=rfl;have g:lS k s.1 i=(jc k (s.1.getD i (0,[]))&&xc (·.1) (0,[]) s.1 i):=rfl;have q:=mm (f:=λp:bo=>p.1) (d:=(0,[])) (l:=s.1) (i:=i);have b:=z _ (iy (d:=(0,[])) h);generalize s.1.getD i (0,[])=p at *;generalize s.1.getD (i-1) (0,[])=p' at *;cases o:jc k p with
  |false =>
   rw[o,pD]at g;refine aO m [(12,ab),(20,ab),(35,ab)] rfl ?_ (AK.eP (cg.zero rfl ?_))
   .simp[-ah,w,v,b,o,ef.list_fn,ef.au];omega
   .rw[ft h g];simp
  |true =>
   rw[o,eL]at g;by_cases A:i=0
   .subst A;refine aO m [(12,ab),(20,ae),(23,ae),(35,ae)] rfl ?_ (AK.aQ 1 rfl (by simp) (by simp) ⟨h,gb a (by rw[g];rfl)⟩ (by omega));simp[-ah,w,v,b,o,ef.list_fn,ef.au,bt];omega
   have q:=q A;by_cases F:p'.1<p.1
   .refine aO m [(12,ab),(20,ae),(23,ab),(33,ae),(35,ae)] rfl ?_ (AK.aQ (i+1) rfl (by simp) (by simp) ⟨h,gb a (by grind)⟩ (by omega));simp[-ah,w,t,v,b,o,ef.list_fn,ef.au,bt];omega
   .refine aO m [(12,ab),(20,ae),(23,ab),(33,ab),(35,ab)] rfl ?_ (AK.eP (cg.zero rfl ?_))
    .simp[-ah,w,t,v,b,o,ef.list_fn,ef.au,bt];omega
    .rw[ft h (by grind)];simp
 obtain rfl:i=s.1.length:=by omega
 rw[cK.2 a,eL];refine aO m [(12,ae)] rfl (by simp) (AK.leaveD rfl rfl ?_);refine bX m rfl aq ?_;refine AK.cQ (CI s.1 c.pk c.nm) [] rfl ?_;refine bX m rfl aq ?_;refine AK.cQ (CJ (bP s.1) c.nm) [1] rfl ?_;have C:=AB (bP s.1);have u:=(xi (X:=X) (mn (bP s.1)) (by rw[gL];exact c.nm)).die;rw[gL]at u;have y:=sq (mn (bP s.1));rw[gL]at y;have B:=c.nm;generalize dO (mn (bP s.1))=cs at *;generalize mn (bP s.1)=so at *;have oC:bR X [(71,yu [ko (bP s.1).length] [HI (bP s.1).length so] (.e (.one (.bp 0 (.sl (bP s.1).length 1 0 cs.length)))) [.dead]),(69,mH [cP.sl s.1] (cI.sl (bP s.1)))]:=.cons (yv u) (.cons (nZ x) .nil);refine aO oC [(1000009,ab)] rfl aq ?_;by_cases r:s.1.length<=20
 rotate_left
 .refine aO oC [(46,ae)] rfl ?_ (AK.bq rfl ?_)
  .simp;omega
  .simp[r]
 have n:(s.1.length:Int)<=20:=by omega
 generalize E:bP s.1=N at *;refine AK.MW (ι:=Unit) fC 6 (λi=>match bC i 5 with|true=>ab|false=>match az i 8 with|true=>ab|false=>az i 9) (λi=>[.e (.one (.ptr 0 0)),cP.sl s.1,dI s.1.length,dB (decide ((s.1.length:Int)<=20)),dB ab,.e (.one (.bp 1 (.sl N.length 1 0 N.length))),.any,.any,.e (.one (.ptr 0 0)),cP.sl s.1].getD i .any)
  (λ_ i=>[.any,.any,.any,.any,.any,.any,.e (.one (.bp 1 (.sl N.length 1 0 cs.length))),dI cs.length,.any,.any,cI.sl N,dI N.length,dB ((cs.length:Int)==N.length),dB ((cs.length:Int)==N.length),dB ((cs.length:Int)==N.length)].getD i .any) (λ_=>[Ic s,.dead]) rfl rfl rfl rfl rfl rfl ?_ ?_ ?_ ?_
 .exact⟨.fW tok oC rfl,.fW tok oC rfl,.fW tok oC rfl,.fW tok oC rfl,.eval tok oC (ds:=[(46,ab)]) rfl (dc n),.fW tok oC rfl,aq,aq,.fW tok oC rfl,.fW tok oC rfl,aq,aq,aq,aq,aq,aq⟩
 .intro _;exact⟨.fW tok oC rfl,.fW tok oC rfl,.fW tok oC rfl,.fW tok oC rfl,.eval tok oC (ds:=[(46,ab)]) rfl (dc n),.fW tok oC rfl,aq,.fW tok oC rfl,.fW tok oC rfl,.fW tok oC rfl,.eval tok oC (ds:=[]) rfl rfl,.fW tok oC rfl,.fW tok oC rfl,.fW tok oC rfl,.fW tok oC rfl,aq⟩
 .exact .zQ (eZ tok oC (ds:=[]) (σ':=aa [Ic s,.dead]) rfl ⟨rfl,rfl⟩)
 .intro _;refine bX oC rfl aq (AK.bq rfl ?_);have:((cs.length:Int)==N.length)=decide N.Nodup:=by grind
  simp[this,r]
def lk:List (Int×Int)->C
 |[]=>.oK
 |h::t=>.rp [.int .i64 h.1,.int .i64 h.2,lk t]
end
structure kX(s:bw):Prop where
 a1:s.1.length<=20
 a2:∀p∈s.1,(1<=p.1/\p.1<=99)/\p.2.length<=4
 a3:s.2.1.length<=21
 a4:∀x∈s.2.1,(1<=x.1/\x.1<=20)/\x.2.length<=6/\∀y∈x.2,y.2.length<=40
 a5:s.2.2.length<=9
 a6:∀h∈s.2.2,1<=h.2/\h.2<=20
def j6{α b:Type}{f:α->List b}{n:Nat}:∀{l:List α},(∀x∈l,(f x).length<=n)->(l.flatMap f).length<=n*l.length
 |[],_=>by simp
 |x::l,h=>by have d:=h x oE;have c:=j6 (l:=l) λy a=>h y (mx _ a);grind[Nat.mul_succ]
def lU{x:cW}(h:x.2.length<=6/\∀y∈x.2,y.2.length<=40):(cd x.2).length<=240:=by have:=j6 (f:=λy:gK=>y.2) (n:=40) h.2;unfold cd;omega
def kX.Sa{s:bw}(h:kX s):Pc s:=by
 have h1:=h.a1;have d:=h.a3;have c:(bP s.1).length<=4*s.1.length:=j6 λp b=>by rw[jT];exact(h.a2 p b).2
 have e:(ji s.2.1).length<=240*s.2.1.length:=j6 λx a=>lU (h.a4 x a).2;refine⟨⟨by omega,λx a=>?_,by omega,by omega⟩,λp b=>?_,by omega⟩
 .have:=(h.a4 x a).2;grind
 .have:=(h.a2 p b).2;omega
def kX.Gn{s:bw}(h:kX s):gF s:=by have h1:=h.Sa;have a:=h.a5;exact⟨h1.pN,h1.pk,h1.sN,h1.sm,by omega⟩
def kX.Rm{s:bw}(h:kX s):NC s :=
 ⟨λx a=>by have:=(h.a2 x a).1;omega,λx a=>by have:=(h.a4 x a).1;omega,λx a=>by have:=h.a6 x a;omega⟩
def kX.eF{s:bw}(h:kX s):(eF s.1).length<=100000:=by
 have h1:=h.a1;have:(R1.eF s.1).length<=4*s.1.length:=j6 λp a=>by rw[jT];exact(h.a2 p a).2
 omega
def AJ{k:Int}{x:cW}{ps:List bo}(h:(cj k x ps).isSome=ab):x.2.length<=6/\∀y∈x.2,y.2.length<=40:=by
 unfold cj at h;split at h
 .rename_i b;simp only[bJ]at b;obtain⟨⟨_,g⟩,e⟩:=b;refine⟨?_,λy f=>?_⟩
  .simp only[cE,bJ,bh,c8,jT]at e;exact e.2
  .have a:=List.all_eq_true.1 g y f;unfold fileOf at a;split at a
   .cases a
   .rename_i l c;split at a
    .cases a
    .rename_i t d;have i:l.length=y.2.length:=by unfold dJ at c;split at c<;>cases c;simp
     unfold fZ at d;split at d
     .rename_i b;simp only[bJ,eG,dN,bh]at b;grind[j4]
     grind
 grind
def AH.Uf{k:Int}{s:bw}(h:AH k s):kX s:=by
 have hl:s.2.1.length<=20:=by have:=sr 1 h.sa λx a=>(h.sn x a).1;omega
 have b:=h.log;simp only[oo,bJ,bh,cK]at b;refine⟨h.len,λp c=>⟨(h.pk p c).no,(h.pk p c).len.2⟩,by omega,λx a=>⟨(h.sn x a).1,AJ (h.sn x a).2⟩,b.2,λq e=>?_⟩;have:=(su (p:=gX) (d:=(0,0))).1 b.1 q e;simp only[gX,bJ,bh]at this;exact this.2
def K4{l:List (Int×Int)}(h:∀x∈l,-4000000<=x.2/\x.2<=4000000):1<=pf l:=(pb l h).1
def K5{s:bw}(h:kX s):1<=ey s:=by have:=K4 h.Rm.h;unfold ey;split<;>omega
def K6{s:bw}(h:kX s):1<=fO s:=by
 unfold fO;split
 .omega
 .rename_i a;have:=(h.a2 _ (yM a (0,[]))).1;omega
def kX.save{k:Int}{s:bw}{t:List bu}{by_:Int}(h:kX s)(g:s.2.1.length<=20)(d:cE t=ab)(c:fQ k s t=ae):kX (ga k s by_ t):=by
 simp only[fQ,Bool.or_eq_false_iff,bM]at c;obtain⟨o,p,q,m⟩:=c;have i:=K5 h;have n:=K6 h;have j:=mo.1 d;unfold ga;refine⟨by grind,λx a=>?_,by grind,λx a=>?_,by grind,λx a=>?_⟩
 .rcases ff.1 a with a|a
  .exact h.a2 x a
  .obtain⟨b,qs,a1,a2,a3,a4,a5,rfl⟩:=tw k _ _ _ (qW (k:=k) (l:=indexOf s.1) (jg d)).1 x a;have a2:b<fO s+(wL k s t).length:=a2;exact⟨⟨by show 1<=b;omega,by show b<=99;omega⟩,by grind[CM]⟩
 .rcases ff.1 a with a|a
  .exact h.a4 x a
  .rw[iX]at a;subst a;refine⟨⟨i,by show ey s<=20;omega⟩,by show(t.map _).length<=6;grind,λy e=>?_⟩;obtain⟨f,c,rfl⟩:=nG.1 e;have h1:=(j.1 f c).2;simp only[dN,bJ,bh]at h1;have h2:=j4 f.2;show((pieces f.2).map _).length<=40;grind
 .rcases ff.1 a with a|a
  .exact h.a6 x a
  grind
structure TA(s:bw):Prop extends kX s where
 pa:s.1.Pairwise λp q=>p.1<q.1
 sa:s.2.1.Pairwise λx y=>x.1<y.1
 hb:∀h∈s.2.2,1<=h.1/\h.1<=2
def TA.nil:TA ([],[],[]):=⟨⟨by simp,by simp,by simp,by simp,by simp,by simp⟩,by simp,by simp,by simp⟩
def TA.Xn{s:bw}(h:TA s):s.2.1.length<=20:=by have:=sr 1 h.sa λx a=>(h.a4 x a).1;omega
def C7{f:α->Int}{l:List α}(h:l.Pairwise λa b=>f a<f b)(c:l.length≠0)(d:α):∀x∈l,f x<=f (l.getD (l.length-1) d):=by grind[List.getElem_of_mem,List.pairwise_iff_getElem]
def TA.save{k:Int}{s:bw}{t:List bu}{by_:Int}(h:TA s)(d:cE t=ab)(hb:1<=by_/\by_<=2)(e:fQ k s t=ae):TA (ga k s by_ t):=by
 refine⟨h.tokX.save h.Xn d e,?_,?_,λx a=>?_⟩
 .refine uJ.2 ⟨h.pa,qZ k _ _ _,λx a y b=>?_⟩;have h1:x.1<fO s:=by
   unfold fO;split
   .grind
   .rename_i c;have:=C7 (f:=λp:bo=>p.1) h.pa c (0,[]) x a;omega
  have:=qf k _ _ _ y b;omega
 .refine uJ.2 ⟨h.sa,by simp,λx a y b=>?_⟩;rw[iX]at b;subst b;show x.1<ey s;unfold ey;split
  .grind
  .rename_i c;have:=C7 (f:=λp:cW=>p.1) h.sa c (0,[]) x a;omega
 .rcases ff.1 a with a|a
  .exact h.hb x a
  grind
def TA.Ux{s:bw}(h:TA s)(p:cW->Bool):TA (s.1,s.2.1.filter p,s.2.2) :=
 ⟨⟨h.a1,h.a2,fG (sG _ _) h.a3,λx a=>h.a4 x (nE.1 a).1,h.a5,h.a6⟩,h.pa,h.sa.filter _,h.hb⟩
def TA.step{s:bw}(h:TA s)(no:Int)(ms:List Int):TA (cp no ms s.1,s.2):=by
 refine⟨⟨?_,λp c=>?_,h.a3,h.a4,h.a5,h.a6⟩,?_,h.sa,h.hb⟩
 .have:(cp no ms s.1).length<=s.1.length:=by unfold cp;grind
  exact fG this h.a1
 .obtain⟨q,b,rfl,_⟩:=xp c;have:=h.a2 q b;grind[ra,qh]
 .show (cp no ms s.1).Pairwise _;unfold cp;refine List.Pairwise.filter _ (List.pairwise_map.2 (h.pa.imp λa=>?_));grind[qh]
structure TW(n:Nat)(w:br):Prop where
 s:TA w.1
 m:w.2.1.length<=n
 l:w.2.2.length<=20
def TW.mono{m:Nat}{w:br}(h:TW n w)(hm:n<=m):TW m w:=⟨h.s,fG h.m hm,h.l⟩
abbrev EX:br:=(([],[],[]),[],[])
def TW.nil{n:Nat}:TW n EX:=⟨TA.nil,by simp,by simp⟩
def HZ(k:Int)(s:bw)(keep:List Int):br×Bool :=
 if fJ k s=ab then(((s.1,s.2.1.filter λx=>keep.contains x.1,s.2.2),fx (s.2.1.filter λx=>keep.contains x.1),s.1.map (·.1)),ab)else(EX,ae)
def LG{s:bw}(h:kX s):(ji s.2.1).length<=240*21:=by have c:=h.a3;have b:(ji s.2.1).length<=240*s.2.1.length:=j6 λx a=>lU (h.a4 x a).2;omega
def TW.beg{k:Int}{s:bw}{keep:List Int}(h:TA s):TW 6000 (HZ k s keep).1:=by
 unfold HZ;split
 .have a:=h.Ux λx=>keep.contains x.1;refine⟨a,?_,by simp only[jT];exact h.a1⟩;have h1:=qd (s.2.1.filter λx=>keep.contains x.1) _ (ba _);have h2:=LG a.tokX;grind
 .exact TW.nil
def TW.step{n:Nat}{w:br}(h:TW n w):TW n (eC w):=by
 unfold eC;split
 .exact h
 .rename_i no r hl;refine⟨h.s.step _ _,h.m,?_⟩;have:=h.l;grind
def mr(k:Int)(w:br)(by_:Int)(t:List bu):br:=(ga k w.1 by_ t,(fw (fU (ey w.1) k t).2).foldl jK w.2.1,w.2.2)
def RO(k:Int)(w:br)(by_:Int)(t:List bu):Bool:=dz k w&&decide (1<=by_/\by_<=2)&&cE t
def TW.save{k:Int}{n:Nat}{w:br}{t:List bu}{by_:Int}(h:TW n w)(b:cE t=ab)(hb:1<=by_/\by_<=2)(c:fQ k w.1 t=ae):TW (n+240) (mr k w by_ t):=by have a:=h.s.save b hb c;refine⟨a,?_,h.l⟩;have h1:=gd w.2.1 (fw (fU (ey w.1) k t).2);have h2:=j5 (fU (ey w.1) k t).2;have d:=lU (a.a4 (fU (ey w.1) k t) (by simp[ga])).2;have e:=h.m;show((fw _).foldl jK w.2.1).length<=_;omega
def TW.smS{w:br}(h:TW n w):Pb w.1:=h.s.Sa.toPb
abbrev cTr:List (Nat×dv):=[(72,tc)]
def EI(k:Int)(s:bw)(u:Pc s):Ev (Cx.beside ag) 37 [l4 s,dI k] [] (dB ((bg s.2.1.length).all (jJ k s))) []:=by
 refine Ev.bQ Tryz.func37 rfl λw=>?_;have x:=u.sN;have q:=u.sm;have c:bR (Cx.beside ag) cTr:=.cons yx .nil;refine bX c rfl aq ?_;refine AK.bS 1 (λi=>i<=s.2.1.length/\∀j,j<i->jJ k s j=ab) (λi:Nat=>[(1,dI k),(2,.e (.one (.ptr 0 0))),(10,cX.sl s.2.1),(11,dI s.2.1.length),(12,dI i)]) (λ_=>[Ic s]) (λi=>s.2.1.length-i) 0 rfl (by simp) rfl (by simp) rfl ⟨by omega,by omega⟩ ?_;rintro i ⟨hi,b⟩;by_cases h:i<s.2.1.length
 .have o:s.2.1.getD i cX.b8=s.2.1.getD i (0,[]):=rfl;have n:s.2.1.getD (i-1) cX.b8=s.2.1.getD (i-1) (0,[]):=rfl;have a:jJ k s i=(decide (1<=(s.2.1.getD i (0,[])).1/\(s.2.1.getD i (0,[])).1<=20)&&xc (·.1) (0,[]) s.2.1 i&&(cj k (s.2.1.getD i (0,[])) s.1).isSome):=rfl;have r:=mm (f:=λp:cW=>p.1) (d:=(0,[])) (l:=s.2.1) (i:=i);have m:=q _ (iy (d:=(0,[])) h);generalize s.2.1.getD i (0,[])=p at *;generalize s.2.1.getD (i-1) (0,[])=p' at *;by_cases c1:1<=p.1
  rotate_left
  .refine aO c [(13,ab),(20,ab),(25,ab),(40,ab)] rfl ?_ (AK.eP (cg.zero rfl ?_))
   .simp[-ah,o];omega
   .rw[ft h (by grind)];simp
  by_cases c2:p.1<=20
  rotate_left
  .refine aO c [(13,ab),(20,ae),(25,ab),(40,ab)] rfl ?_ (AK.eP (cg.zero rfl ?_))
   .simp[-ah,o];omega
   .rw[ft h (by grind)];simp
  rw[dc ⟨c1,c2⟩,eL]at a;by_cases t:i=0
  .subst t;rw[show xc (·.1) (0,[]) s.2.1 0=ab from rfl,eL]at a;cases g:(cj k p s.1).isSome with
   |false =>
    refine aO c [(13,ab),(20,ae),(25,ae),(27,ae),(40,ae),(50,ab)] rfl ?_ (AK.eP (cg.zero rfl ?_))
    .simp[-ah,o,bt,cL.list_fn,cL.au,cP.list_fn,cP.au,g,m.1];and_intros<;>first|omega|grind
    .rw[ft h (a.trans g)];simp
   |true =>
    refine aO c [(13,ab),(20,ae),(25,ae),(27,ae),(40,ae),(50,ae)] rfl ?_ (AK.aQ 1 rfl (by simp) (by simp) ⟨h,gb b (a.trans g)⟩ (by omega));simp[-ah,o,bt,cL.list_fn,cL.au,cP.list_fn,cP.au,g,m.1];and_intros<;>first|omega|grind
  rw[r t]at a;by_cases v:p'.1<p.1
  rotate_left
  .refine aO c [(13,ab),(20,ae),(25,ae),(28,ab),(38,ab),(40,ab)] rfl ?_ (AK.eP (cg.zero rfl ?_))
   .simp[-ah,o,n,bt];omega
   .rw[ft h (by grind)];simp
  rw[dc v,eL]at a;cases g:(cj k p s.1).isSome with
  |false =>
   refine aO c [(13,ab),(20,ae),(25,ae),(28,ab),(38,ae),(40,ae),(50,ab)] rfl ?_ (AK.eP (cg.zero rfl ?_))
   .simp[-ah,o,n,bt,cL.list_fn,cL.au,cP.list_fn,cP.au,g,m.1];and_intros<;>first|omega|grind
   .rw[ft h (a.trans g)];simp
  |true =>
   refine aO c [(13,ab),(20,ae),(25,ae),(28,ab),(38,ae),(40,ae),(50,ae)] rfl ?_ (AK.aQ (i+1) rfl (by simp) (by simp) ⟨h,gb b (a.trans g)⟩ (by omega));simp[-ah,o,n,bt,cL.list_fn,cL.au,cP.list_fn,cP.au,g,m.1];and_intros<;>first|omega|grind
 obtain rfl:i=s.2.1.length:=by omega
 rw[cK.2 b];refine aO c [(13,ae)] rfl (by simp) (AK.leaveD rfl rfl ?_);exact bX c rfl aq (AK.bq rfl)
def xU(k:Int)(s:bw):fJ k s=(cD k&&yK k s&&(bg s.2.1.length).all (jJ k s)&&oo s.2.2):=by unfold fJ yK;cases(bg s.1.length).all (lS k s.1)<;>cases decide (bP s.1).Nodup<;>cases(bg s.2.1.length).all (jJ k s)<;>cases cD k<;>cases oo s.2.2<;>cases decide (s.1.length<=20)<;>rfl
abbrev Rh:dv:=nt No aI (λs k=>dB (yK k s)) λs k=>[cD k=ab,Pc s]
abbrev Ri:dv:=nt No aI (λs k=>dB ((bg s.2.1.length).all (jJ k s))) λs _=>[Pc s]
def CK(k:Int)(s:bw)(f:Pc s):Ev (Cx.beside ag) 19 [dI k,l4 s] [] (dB (fJ k s)) []:=by
 refine Ev.bQ Tryz.func19 rfl λj=>?_;have b:bR (Cx.beside ag) [(34,KZ),(35,kF aI (λk=>dB (cD k)) λ_=>[]),(36,Rh),(37,Ri),(38,vc)]:=.cons Rg (.cons t35 (.cons (.qn λs k h=>EH k s h.1 h.2) (.cons (.qn λs k h=>EI k s h) (.cons NY .nil))));have d:=cP.list_fn s.1;have e:=cX.list_fn s.2.1;have a:=cH.list_fn s.2.2;rw[xU];cases c:cD k
 .exact aO b [(10,ae),(15,ae),(20,ae)] rfl (by simp[c,d,e,a,cP.au,cX.au,cH.au]) (AK.bq rfl)
 cases g:yK k s
 .exact aO b [(10,ab),(15,ae),(20,ae)] rfl (by simp[c,d,e,a,cP.au,cX.au,cH.au,f,g]) (AK.bq rfl)
 cases i:(bg s.2.1.length).all (jJ k s)
 .exact aO b [(10,ab),(15,ab),(20,ae)] rfl (by simp[-List.all_eq_true,-List.all_eq_false,c,d,e,a,cP.au,cX.au,cH.au,f,g,i]) (AK.bq rfl)
 exact aO b [(10,ab),(15,ab),(20,ab)] rfl (by simp[-List.all_eq_true,-List.all_eq_false,c,d,e,a,cP.au,cX.au,cH.au,f,g,i]) (AK.bq rfl (by simp[a]))
abbrev tu:dv:=nt aI No (λk s=>dB (fJ k s)) λ_ s=>[Pc s]
def yL:dH (Cx.beside ag) 19 tu:=.qn λk s h=>CK k s h
section
variable {X:Cx ag}
end
def ER(k:Int)(s x:bw)(c:j0 s)(d:j0 x)(j:s.2.1.length<=4000000)(h:∀y∈s.2.1,eU k x y.1=eU k s y.1):Ev (Cx.beside ag) 20 [dI k,l4 s,l4 x] [] (dB ab) []:=by
 refine Ev.bQ Tryz.func20 rfl λg=>?_;refine bA rfl aq ?_;refine AK.loop (λi=>i<=s.2.1.length) (λi:Nat=>[(0,dI k),(4,.e (.one (.ptr 0 0))),(5,.e (.one (.ptr 1 0))),(7,dI i)]) (λ_=>[th s,th x]) (λi=>s.2.1.length-i) 0 (by omega) (dw rfl (by simp)) rfl ?_;intro i hi;by_cases a:i<s.2.1.length
 .have f:s.2.1.getD (i:Int).toNat cX.b8=s.2.1.getD i (0,[]):=rfl;have e:=h _ (gA a (0,[]));generalize s.2.1.getD i (0,[])=y at *;have b:bR (Cx.beside ag) [(39,wG),(40,mH [cF.sl ((eU k s y.1).getD []),cF.sl ((eU k s y.1).getD [])] (dB ab))]:=.cons Ek (.cons (nZ (Q9 _)) .nil);refine aZ b [(16,ab),(46,ae),(51,ae)] rfl ?_ ⟨i+1,a,by omega,dw rfl (by simp),rfl⟩;simp only[ar,f,cP.list_fn,cX.list_fn,cH.list_fn,e,bt];and_intros<;>first|rfl|exact cP.au _|exact cX.au _|exact cH.au _|exact c|exact d|omega|simp;omega|simp
 obtain rfl:i=s.2.1.length:=by omega
 refine aY [(16,ae)] rfl (by simp) (AK.leave rfl rfl ?_);exact bA rfl aq (AK.bq rfl)
section
variable {X:Cx ag}
def ES(s:bw)(a:gF s):Ev X 32 [l4 s] [] (l4 s) []:=by refine(j3 s a.p a.p2 a.sn a.s2 a.h).forget rfl ?_ rfl;simp
abbrev sD:dv:=kF No (λs=>l4 s) λs=>[gF s]
def vg:dH X 32 sD:=.oz λs h=>ES s h
def ET(w:br)(b:gF w.1)(f:w.2.1.length<=4000000)(g:w.2.2.length<=4000000):Ev X 53 [nu w] [] (.e (.agg [kn cP w.1.1,kn cX w.1.2.1,kn cH w.1.2.2,kn cI w.2.1,.vec 0 1 w.2.2.length (cI.fn w.2.2)])) [.vec 3 1 w.2.2.length (cI.fn w.2.2)]:=by
 refine Ev.kW tok Tryz.func53 rfl rfl rfl λd=>?_;have a:bR X [(32,sD)]:=.cons vg .nil;refine aZ a [(2000009,ab)] rfl ?_ ?_
 .simp only[ar,cP.list_fn,cP.au,cX.list_fn,cX.au,cH.list_fn,cH.au,b,aC,aB,show i3.bytes=8 from rfl,true_or];and_intros<;>omega
 refine AK.norm [n9 w,.cells 30 [kn cP w.1.1,kn cX w.1.2.1,kn cH w.1.2.2,kn cI w.2.1,.vec 2 1 w.2.2.length (cI.fn w.2.2)],.vec 3 1 w.2.2.length (cI.fn w.2.2)] rfl ?_ ?_
 .simp[cP.list_fn,cX.list_fn,cH.list_fn,nb]
 refine AK.kV () [2] rfl rfl rfl rfl rfl rfl rfl rfl ?_ rfl rfl rfl rfl (λj c=>absurd c (by simp));simp
def HX(w:br)(a:gF w.1)(c:w.2.1.length<=4000000)(b:w.2.2.length<=4000000):Ev X 53 [nu w] [] (nu w) [] :=
 (ET w a c b).forget rfl (by simp) rfl
abbrev vh:dv:=kF (WV W5) (λw=>nu w) λw=>[gF w.1,w.2.1.length<=4000000,w.2.2.length<=4000000]
def AS:dH X 53 vh:=.oz λw h=>HX w h.1 h.2.1 h.2.2
abbrev Uw(p:bo)(a:List db):List bm:=[NR p,.cells 39 [.c (.int .i64 0),iN],.cells 39 [.c (.int .i64 p.1),.vec 3 2 a.length (ef.fn a)],.vec 60 2 a.length (ef.fn a)]
def rf{l:List α}{q:α->Bool}(h:i<l.length)(d:α):(l.take (i+1)).filter q=if q (l.getD i d)=ab then(l.take i).filter q++[l.getD i d]else(l.take i).filter q:=by rw[bx h d,uL,rv];split<;>simp
def filter_le(l:List α)(q:α->Bool)(h:i<=l.length):((l.take i).filter q).length<=i:=fG (sG _ _) (by simp;omega)
def LD(p:bo)(ns:List Int)(g:p.2.length<=4000000):Ev X 54 [qo p,cI.sl ns] [] (qo (ck p ns)) []:=by
 refine Ev.kW tok Tryz.func54 rfl rfl rfl λm=>?_;have b:bR X [(29,Cw)]:=.cons Gk .nil;refine aZ b [(1000002,ab)] rfl aq ?_;refine AK.iv 2 1 60 2 (ef.fn []) rfl rfl ?_;refine bX b rfl aq ?_;refine AK.bS 4 (λi=>i<=p.2.length) (λi:Nat=>[(1,cI.sl ns),(2,.e (.one (.ptr 0 0))),(4,.e (.one (.ptr 1 0))),(5,.e (.one (.ptr 2 0))),(6,dI i)])
  (λi=>Uw p ((p.2.take i).filter λx=>ns.contains x.1)) (λi=>p.2.length-i) 0 rfl (by simp) rfl (by simp) rfl (by omega) ?_
 intro i hi;have l:=filter_le p.2 (λx=>ns.contains x.1) hi;by_cases h:i<p.2.length
 .have f:p.2.getD i ef.b8=fI p i:=rfl;have c:(p.2.take (i+1)).filter (λx=>ns.contains x.1)=if ns.contains (fI p i).1=ab then(p.2.take i).filter (λx=>ns.contains x.1)++[fI p i]else(p.2.take i).filter (λx=>ns.contains x.1):=rf h (0,[]);generalize(p.2.take i).filter (λx=>ns.contains x.1)=a at *;generalize fI p i=x at *;cases d:ns.contains x.1 with
  |true =>
   rw[bc d]at c;have g:=ef.cm a x;refine aZ b [(15,ab),(25,ab)] rfl ?_ (AK.aQ (i+1) rfl (by simp) ?_ h (by omega))
   .simp[-ah,-List.contains_eq_mem,f,h,d,cI.list_fn,cI.au,bt,show i60.bytes=24 from rfl];omega
   .rw[c];simp only[ar.cat,ar,bD,f,bT,eb,aC,aB];and_intros<;>first|exact cq.same|exact g|rfl|omega
  |false =>
   rw[aW (by rw[d];simp)]at c;refine aZ b [(15,ab),(25,ae)] rfl ?_ (AK.aQ (i+1) rfl (by simp) ?_ h (by omega))
   .simp[-ah,-List.contains_eq_mem,f,h,d,cI.list_fn,cI.au,bt];omega
   .rw[c];simp
 obtain rfl:i=p.2.length:=by omega
 rw[cB];refine aO b [(15,ae)] rfl (by simp) (AK.leaveD rfl rfl ?_);refine bX b rfl aq ?_;refine AK.kV () [] rfl rfl rfl rfl rfl rfl rfl rfl ?_ rfl rfl rfl rfl (λj k=>absurd k (by simp));simp[ck]
abbrev EU:dv:=nt (BV ef) (aL cI) (λp ns=>qo (ck p ns)) λp _=>[p.2.length<=4000000]
def LF:dH X 54 EU:=.qn λp ns h=>LD p ns h
abbrev RN(w:br)(b:Bool):D:=.fK [.agg (Ub w),.one (.c (.bool b))]
abbrev l6:List A:=[iN,iN,iN,iN,iN]
def stepT(no:Int)(ms:List Int)(ps:List bo)(i:Nat):List bo:=cp no ms (ps.take i)
def qj{no:Int}{ms:List Int}{ps:List bo}(h:i<ps.length):stepT no ms ps (i+1)=if(eu no ms (ps.getD i (0,[]))).2.length=0 then stepT no ms ps i else stepT no ms ps i++[eu no ms (ps.getD i (0,[]))]:=by unfold stepT cp;rw[bx h (0,[]),List.map_append,uL,List.map_singleton];grind
def tE(no:Int)(ms:List Int)(ps:List bo)(h:i<=ps.length):(stepT no ms ps i).length<=i:=by unfold stepT cp;grind
def xy(w:br)(b:gF w.1)(e:w.2.1.length<=4000000)(c:w.2.2=[]):Ev X 24 [nu w] [] (RN w ae) []:=by
 refine Ev.mb Tryz.func24 rfl rfl rfl λd=>?_;have a:bR X [(53,vh)]:=.cons AS .nil;refine aZ a [(13,ab)] rfl ?_ ?_
 .simp only[ar,cP.list_fn,cP.au,cX.list_fn,cX.au,cH.list_fn,cH.au,cI.list_fn,cI.au,b,c,aC,aB];simp;omega
 refine AK.freeze 2 1 rfl rfl rfl ?_;refine AK.lD tok [] rfl ?_ rfl rfl rfl jF;simp[cP.list_fn,cX.list_fn,cH.list_fn,cI.list_fn]
abbrev Xm(st:bw)(ms:List Int)(l:List Int)(a:List bo):List bm:=[n9 (st,ms,l),.cells 30 l6,n9 (st,ms,l),.vec 39 2 a.length (cP.fn a)]
def _root_.Go.AM.iT.Gu(c:iT α)(x:α)(l:List α)(h:n=l.length):cq n (k9 1 (c.fn (x::l))) (c.fn l):=by intro i hi;simp only[k9,iT.fn,xS,ah,Nat.add_comm 1 i,kL]
def EV(st:bw)(ms lf:List Int)(no:Int)(r:List Int)(d:lf=no::r)(q:gF st)(v:ms.length<=4000000)(x:lf.length<=4000000):Ev X 24 [nu (st,ms,lf)] [] (RN ((cp no ms st.1,st.2),ms,r) ab) []:=by
 refine Ev.mb Tryz.func24 rfl rfl rfl λA=>?_;have g:bR X [(53,vh),(54,EU)]:=.cons AS (.cons LF .nil);have t:0<lf.length:=by rw[d];simp
 refine aZ g [(13,ae),(1000005,ab)] rfl ?_ ?_
 .simp only[ar,cP.list_fn,cP.au,cX.list_fn,cX.au,cH.list_fn,cH.au,cI.list_fn,cI.au,q,v,x,aC,aB,dG,cT];omega
 refine AK.ik 5 39 2 rfl rfl ?_;refine cu g rfl aq ?_;have y:=q.p;refine AK.bS 4 (λi=>i<=st.1.length) (λi:Nat=>[(1,.e (.one (.ptr 0 0))),(2,.e (.one (.ptr 1 0))),(4,.e (.one (.ptr 2 0))),(5,.e (.one (.vec 3 2 (stepT no ms st.1 i).length (cP.fn (stepT no ms st.1 i))))),(6,dI i)])
  (λi=>Xm st ms lf (stepT no ms st.1 i)) (λi=>st.1.length-i) 0 rfl ?_ rfl ?_ rfl (by omega) ?_
 .simp[stepT,cp]
 .simp[stepT,cp,cP.list_fn,cX.list_fn,cH.list_fn,cI.list_fn]
 intro i hi;by_cases h:i<st.1.length
 .have f:st.1.getD i cP.b8=st.1.getD i (0,[]):=rfl;have m:=q.p2 _ (gA h (0,[]));have b:=qj (no:=no) (ms:=ms) h;have z:=tE no ms st.1 hi;have o:lf.getD (Int.toNat 0) cI.b8=no:=by rw[d];rfl
  generalize stepT no ms st.1 i=a at *;generalize st.1.getD i (0,[])=p at *;by_cases k:p.1=no
  .have j:eu no ms p=ck p ms:=by unfold eu;rw[bc k]
   rw[j]at b;have n:=cP.cm a (ck p ms);have w:(ck p ms).2.length<=p.2.length:=sG _ _;have c:(p.1,p.2)=p:=rfl;by_cases l:(ck p ms).2.length=0
   .rw[bc l]at b;refine aZ g [(21,ab),(36,ab),(44,ae)] rfl ?_ (AK.aQ (i+1) rfl ?_ ?_ h (by omega))
    .simp only[ar,bD,f,o,c,m,ef.list_fn,ef.au,cI.list_fn,cI.au,bt,bh,bM,eG,aC,aB];and_intros<;>first|exact k|omega
    .rw[b];simp
    .rw[b];simp
   .rw[aW l]at b;refine aZ g [(21,ab),(36,ab),(44,ab)] rfl ?_ (AK.aQ (i+1) rfl ?_ ?_ h (by omega))
    .simp only[ar,bD,f,o,c,m,ef.list_fn,ef.au,cI.list_fn,cI.au,bt,show i39.bytes=32 from rfl,bh,bM,eG,aC,aB];and_intros<;>first|exact k|omega
    .rw[b];simp only[ar.cat,ar,bD,f,c,ef.list_fn,cI.list_fn,bT,eb,aC,aB];and_intros<;>first|exact cq.same|exact n|rfl|omega
    .rw[b];simp only[ar.cat,ar,bD,f,c,ef.list_fn,cI.list_fn,bT,eb,aC,aB];and_intros<;>first|exact cq.same|exact n|rfl|omega
  .have j:eu no ms p=p:=by unfold eu;rw[aW k]
   rw[j]at b;have n:=cP.cm a p;by_cases l:p.2.length=0
   .rw[bc l]at b;refine aZ g [(21,ab),(36,ae),(44,ae)] rfl ?_ (AK.aQ (i+1) rfl ?_ ?_ h (by omega))
    .simp only[ar,bD,f,o,bt,bh,bM,dG,cT,aC,aB];and_intros<;>first|exact k|omega
    .rw[b];simp
    .rw[b];simp
   .rw[aW l]at b;refine aZ g [(21,ab),(36,ae),(44,ab)] rfl ?_ (AK.aQ (i+1) rfl ?_ ?_ h (by omega))
    .simp only[ar,bD,f,o,bt,show i39.bytes=32 from rfl,bh,bM,dG,cT,aC,aB];and_intros<;>first|exact k|omega
    .rw[b];simp only[ar.cat,ar,bD,f,bT,eb,aC,aB];and_intros<;>first|exact cq.same|exact n|rfl|omega
    .rw[b];simp only[ar.cat,ar,bD,f,bT,eb,aC,aB];and_intros<;>first|exact cq.same|exact n|rfl|omega
 obtain rfl:i=st.1.length:=by omega
 have s:stepT no ms st.1 st.1.length=cp no ms st.1:=by unfold stepT;rw[cB]
 rw[s];refine aZ g [(21,ae)] rfl (by simp) (AK.leaveD rfl rfl ?_);refine cu g rfl ?_ ?_
 .simp only[ar,cr,jz,aC,aB];omega
 refine AK.freeze 2 1 rfl rfl rfl ?_;refine AK.lD tok [] rfl ?_ rfl rfl rfl jF;have u:=cI.Gu no r rfl;rw[<-d]at u;simp only[ar.cat,ar,cr,aC,aB];and_intros<;>first|exact cq.same|exact u|(rw[d];simp;done)|grind|rfl
def x4(w:br):Bool:=!w.2.2.isEmpty
def yV(w:br)(a:gF w.1)(b:w.2.1.length<=4000000)(d:w.2.2.length<=4000000):Ev X 24 [nu w] [] (RN (eC w) (x4 w)) []:=by
 obtain⟨st,ms,c⟩:=w;cases c with
 |nil=>exact xy (st,ms,[]) a b rfl
 |cons no r=>exact EV st ms (no::r) no r rfl a b d
def map_take{a:Type}{l:List α}{f:α->a}(h:i<l.length)(d:α):(l.take (i+1)).map f=(l.take i).map f++[f (l.getD i d)]:=by rw[bx h d,List.map_append];rfl
def AT(l:List cW)(q:cW->Bool):(ji (l.filter q)).length<=(ji l).length:=by
 induction l with
 |nil=>simp
 |cons x l a =>
  unfold ji at *;grind
def EW(k:Int)(w:br)(by_:Int)(t:List bu):br×Bool :=
 if RO k w by_ t=ab then(if fQ k w.1 t=ab then(w,ae)else(mr k w by_ t,ab))else(EX,ae)
structure EY(w:br):Prop where
 s:gF w.1
 m:Pb w.1
 n:w.2.1.length<=4000000
 l:w.2.2.length<=4000000
def TW.sz{w:br}(h:TW n w)(a:n<=1000000):EY w:=⟨h.s.tokX.Gn,h.smS,by have:=h.m;omega,by have:=h.l;omega⟩
def x5(k:Int)(w:br)(by_:Int)(t:List bu)(d:EY w):Ev X 51 [dI k,nu w,dI by_,cF.sl t] [] (RN (EW k w by_ t).1 (EW k w by_ t).2) []:=by
 refine Ev.mb Tryz.func51 rfl rfl rfl λM=>?_;have b:bR X [(10,gR),(63,Ao),(85,R8),(53,vh),(60,vd),(61,xf)]:=.cons iz (.cons B8 (.cons t85 (.cons AS (.cons Az (.cons Ay .nil)))));have q:=d.m;have a:(w.1,w.2.1,w.2.2)=w:=rfl;have r:EW k w by_ t=if dz k w=ab then(if 1<=by_/\by_<=2 then(if cE t=ab then(if fQ k w.1 t=ab then(w,ae)else(mr k w by_ t,ab))else(EX,ae))else(EX,ae))else(EX,ae):=by unfold EW RO;by_cases f:dz k w=ab<;>by_cases g:1<=by_/\by_<=2<;>by_cases j:cE t=ab<;>simp[f,g,j]
 rw[r];cases f:dz k w with
 |false =>
  rw[aW (by simp)];refine aZ b [(18,ab),(23,ab),(28,ab)] rfl ?_ ?_
  .simp only[ar,cP.list_fn,cP.au,cX.list_fn,cX.au,cH.list_fn,cH.au,cI.list_fn,cI.au,a,f,q,fE,aC,aB]
  refine AK.freeze 8 1 rfl rfl rfl ?_;exact AK.lD tok [] rfl (by simp) rfl rfl rfl jF
 |true =>
 rw[bc rfl];by_cases g:1<=by_/\by_<=2
 rotate_left
 .rw[aW g];refine aZ b [(18,ae),(23,ab),(28,ab)] rfl ?_ ?_
  .simp only[ar,cP.list_fn,cP.au,cX.list_fn,cX.au,cH.list_fn,cH.au,cI.list_fn,cI.au,a,f,q,er,aC,aB];grind
  refine AK.freeze 8 1 rfl rfl rfl ?_;exact AK.lD tok [] rfl (by simp) rfl rfl rfl jF
 rw[bc g];cases j:cE t with
 |false =>
  rw[aW (by simp)];refine aZ b [(18,ae),(23,ae),(28,ab)] rfl ?_ ?_
  .simp only[ar,cP.list_fn,cP.au,cX.list_fn,cX.au,cH.list_fn,cH.au,cI.list_fn,cI.au,cF.list_fn,cF.au,a,f,g,j,q,js,nH,er,fE,aC,aB]
  refine AK.freeze 8 1 rfl rfl rfl ?_;exact AK.lD tok [] rfl (by simp) rfl rfl rfl jF
 |true =>
 rw[bc rfl];have z:=gf.1 f;have D:=z.toAH.Uf;have K:=D.Rm;have c:=tj (X:=X) k w.1 by_ t z.key d.s K (jg j) D.eF;cases C:fQ k w.1 t with
 |true =>
  rw[C,bc rfl]at c;rw[bc rfl];refine aZ b [(18,ae),(23,ae),(28,ae)] rfl ?_ ?_
  .simp only[ar,cP.list_fn,cP.au,cX.list_fn,cX.au,cH.list_fn,cH.au,cI.list_fn,cI.au,cF.list_fn,cF.au,a,f,g,j,q,js,nH,er,fE,aC,aB]
  refine AK.cQ c [] rfl ?_;refine aZ b [(42,ab)] rfl ?_ ?_
  .simp only[ar,cP.list_fn,cP.au,cX.list_fn,cX.au,cH.list_fn,cH.au,cI.list_fn,cI.au,a,d.s,d.n,d.l,er,fE,aC,aB]
  refine AK.freeze 8 1 rfl rfl rfl ?_;exact AK.lD tok [] rfl (by simp[cP.list_fn,cX.list_fn,cH.list_fn,cI.list_fn]) rfl rfl rfl jF
 |false =>
 rw[C,aW (by simp)]at c;rw[aW (by simp)];refine aZ b [(18,ae),(23,ae),(28,ae)] rfl ?_ ?_
 .simp only[ar,cP.list_fn,cP.au,cX.list_fn,cX.au,cH.list_fn,cH.au,cI.list_fn,cI.au,cF.list_fn,cF.au,a,f,g,j,q,js,nH,er,fE,aC,aB]
 refine AK.cQ c [] rfl ?_;have y:=D.save (k:=k) (t:=t) (by_:=by_) (by have:=sr 1 z.sa λx J=>(z.sn x J).1;omega) j C;have B:(ga k w.1 by_ t).2.1.length=w.1.2.1.length+1:=by simp[ga]
 have o:(ga k w.1 by_ t).2.1.getD ((ga k w.1 by_ t).2.1.length-1) (0,[])=fU (ey w.1) k t:=by rw[B];simp[ga,ah]
 have v:=y.a4 (fU (ey w.1) k t) (by grind);have I:=lU v.2;have L:=j5 (fU (ey w.1) k t).2;have H:=y.a3;have G:=d.n;unfold mr;generalize ga k w.1 by_ t=s' at *;generalize fU (ey w.1) k t=x at *;have u:((s'.2.1.length:Int)-1).toNat=s'.2.1.length-1:=by omega
 have F:s'.2.1.getD ((s'.2.1.length:Int)-1).toNat cX.b8=x:=by rw[u];exact o
 refine aZ b [(42,ae)] rfl ?_ ?_
 .simp only[ar,F,cP.list_fn,cP.au,cX.list_fn,cX.au,cH.list_fn,cH.au,cI.list_fn,cI.au,cL.list_fn,cL.au,a,d.s,d.n,d.l,bt,er,fE,aC,aB];have:=v.2.1;and_intros<;>omega
 rw[F];simp only[cL.list_fn];generalize fw x.2=ns at *;refine AK.bS 4 (λi=>i<=ns.length) (λi:Nat=>[(5,.e (.one (.ptr 0 0))),(8,.e (.one (.ptr 1 0))),(10,.e (.one (.ptr 2 0))),(12,.e (.one (.ptr 3 0))),(13,cI.sl ns),(14,dI i)])
  (λi=>[n9 w,.cells 30 l6,th s',n9 (s',(ns.take i).foldl jK w.2.1,w.2.2)]) (λi=>ns.length-i) 0 rfl ?_ rfl ?_ rfl (by omega) ?_
 .simp
 .simp[cP.list_fn,cX.list_fn,cH.list_fn,cI.list_fn]
 intro i hi;by_cases h:i<ns.length
 .have p:ns.getD i cI.b8=ns.getD i 0:=rfl;have E:=qc jK w.2.1 h;have A:=gd w.2.1 (ns.take i);rw[List.length_take]at A;generalize(ns.take i).foldl jK w.2.1=a2 at *;have e:=cI.list_fn a2;refine aZ b [(58,ab)] rfl ?_ (AK.aQ (i+1) rfl ?_ ?_ h (by omega))
  .simp[-ah,p,h,e,cI.au,bt];omega
  .simp
  .rw[E];simp[-ah,p,e]
 obtain rfl:i=ns.length:=by omega
 rw[cB];refine aZ b [(58,ae)] rfl (by simp) (AK.leaveD rfl rfl ?_);refine cu b rfl aq ?_;refine AK.freeze 8 1 rfl rfl rfl ?_;exact AK.lD tok [] rfl (by simp) rfl rfl rfl jF
abbrev xz(n:Nat)(l:List Int):bm:=.buf 3 1 n (cI.fn l)
abbrev oL(b:Nat)(st:bw)(ms:List Int)(n q m:Nat):List A:=[kn cP st.1,kn cX st.2.1,kn cH st.2.2,kn cI ms,.bp b (.sl n 1 q m)]
def xA(w:br)(b:gF w.1)(f:w.2.1.length<=4000000)(g:w.2.2.length<=4000000):Ev X 53 [nu w] [] (.e (.agg (oL 0 w.1 w.2.1 w.2.2.length 0 w.2.2.length))) [xz w.2.2.length w.2.2]:=by
 refine Ev.kW tok Tryz.func53 rfl rfl rfl λd=>?_;have a:bR X [(32,sD)]:=.cons vg .nil;refine aZ a [(2000009,ab),(3000013,ab)] rfl ?_ ?_
 .simp only[ar,cP.list_fn,cP.au,cX.list_fn,cX.au,cH.list_fn,cH.au,b,aC,aB,show i3.bytes=8 from rfl,true_or];and_intros<;>omega
 refine AK.norm [n9 w,.cells 30 (oL 2 w.1 w.2.1 w.2.2.length 0 w.2.2.length),xz w.2.2.length w.2.2] rfl ?_ ?_
 .simp[cP.list_fn,cX.list_fn,cH.list_fn,nb];rfl
 refine AK.kV () [2] rfl rfl rfl rfl rfl rfl rfl rfl ?_ rfl rfl rfl rfl (λj c=>absurd c (by simp));simp
abbrev tL(b:Nat)(st:bw)(ms:List Int)(n q m:Nat):D:=.fK [.agg (oL b st ms n q m),.one (.c (.bool ab))]
abbrev LJ(w:br):dv:=yu [nu w] [] (.e (.agg (oL 0 w.1 w.2.1 w.2.2.length 0 w.2.2.length))) [xz w.2.2.length w.2.2]
abbrev Xo(st:bw)(ms:List Int)(l:List Int)(a:List bo):List bm:=[n9 (st,ms,l),.cells 30 l6,xz l.length l,.cells 30 (oL 2 st ms l.length 0 l.length),.vec 39 2 a.length (cP.fn a)]
def EZ(st:bw)(ms lf:List Int)(no:Int)(r:List Int)(n:lf=no::r)(q:gF st)(u:ms.length<=4000000)(v:lf.length<=4000000):Ev X 24 [nu (st,ms,lf)] [] (tL 0 (cp no ms st.1,st.2) ms lf.length 1 (lf.length-1)) [xz lf.length lf]:=by
 refine Ev.kW tok Tryz.func24 rfl rfl rfl λz=>?_;have f:bR X [(53,LJ (st,ms,lf)),(54,EU)]:=.cons (yv (xA (st,ms,lf) q u v)) (.cons LF .nil);have t:0<lf.length:=by rw[n];simp
 refine aZ f [(13,ae),(1000005,ab)] rfl ?_ ?_
 .simp only[ar,cP.list_fn,cP.au,cX.list_fn,cX.au,cH.list_fn,cH.au,cI.list_fn,cI.au,q,u,v,aC,aB,dG,cT];omega
 refine AK.ik 5 39 2 rfl rfl ?_;refine cu f rfl aq ?_;have x:=q.p;refine AK.bS 5 (λi=>i<=st.1.length) (λi:Nat=>[(1,.e (.one (.ptr 0 0))),(2,.e (.one (.ptr 1 0))),(4,.e (.one (.ptr 3 0))),(5,.e (.one (.vec 4 2 (stepT no ms st.1 i).length (cP.fn (stepT no ms st.1 i))))),(6,dI i)])
  (λi=>Xo st ms lf (stepT no ms st.1 i)) (λi=>st.1.length-i) 0 rfl ?_ rfl ?_ rfl (by omega) ?_
 .simp[stepT,cp]
 .simp[stepT,cp,cP.list_fn,cX.list_fn,cH.list_fn,cI.list_fn]
 intro i hi;by_cases h:i<st.1.length
 .have d:st.1.getD i cP.b8=st.1.getD i (0,[]):=rfl;have l:=q.p2 _ (gA h (0,[]));have b:=qj (no:=no) (ms:=ms) h;have y:=tE no ms st.1 hi;have o:lf.getD (Int.toNat 0) cI.b8=no:=by rw[n];rfl
  generalize stepT no ms st.1 i=a at *;generalize st.1.getD i (0,[])=p at *;by_cases j:p.1=no
  .have g:eu no ms p=ck p ms:=by unfold eu;rw[bc j]
   rw[g]at b;have m:=cP.cm a (ck p ms);have w:(ck p ms).2.length<=p.2.length:=sG _ _;have c:(p.1,p.2)=p:=rfl;by_cases k:(ck p ms).2.length=0
   .rw[bc k]at b;refine aZ f [(21,ab),(36,ab),(44,ae)] rfl ?_ (AK.aQ (i+1) rfl ?_ ?_ h (by omega))
    .simp only[ar,bD,d,o,c,l,ef.list_fn,ef.au,cI.list_fn,cI.au,bt,bh,bM,eG,aC,aB];and_intros<;>first|exact j|omega
    .rw[b];simp
    .rw[b];simp
   .rw[aW k]at b;refine aZ f [(21,ab),(36,ab),(44,ab)] rfl ?_ (AK.aQ (i+1) rfl ?_ ?_ h (by omega))
    .simp only[ar,bD,d,o,c,l,ef.list_fn,ef.au,cI.list_fn,cI.au,bt,show i39.bytes=32 from rfl,bh,bM,eG,aC,aB];and_intros<;>first|exact j|omega
    .rw[b];simp only[ar.cat,ar,bD,d,c,ef.list_fn,cI.list_fn,bT,eb,aC,aB];and_intros<;>first|exact cq.same|exact m|rfl|omega
    .rw[b];simp only[ar.cat,ar,bD,d,c,ef.list_fn,cI.list_fn,bT,eb,aC,aB];and_intros<;>first|exact cq.same|exact m|rfl|omega
  .have g:eu no ms p=p:=by unfold eu;rw[aW j]
   rw[g]at b;have m:=cP.cm a p;by_cases k:p.2.length=0
   .rw[bc k]at b;refine aZ f [(21,ab),(36,ae),(44,ae)] rfl ?_ (AK.aQ (i+1) rfl ?_ ?_ h (by omega))
    .simp only[ar,bD,d,o,bt,bh,bM,dG,cT,aC,aB];and_intros<;>first|exact j|omega
    .rw[b];simp
    .rw[b];simp
   .rw[aW k]at b;refine aZ f [(21,ab),(36,ae),(44,ab)] rfl ?_ (AK.aQ (i+1) rfl ?_ ?_ h (by omega))
    .simp only[ar,bD,d,o,bt,show i39.bytes=32 from rfl,bh,bM,dG,cT,aC,aB];and_intros<;>first|exact j|omega
    .rw[b];simp only[ar.cat,ar,bD,d,bT,eb,aC,aB];and_intros<;>first|exact cq.same|exact m|rfl|omega
    .rw[b];simp only[ar.cat,ar,bD,d,bT,eb,aC,aB];and_intros<;>first|exact cq.same|exact m|rfl|omega
 obtain rfl:i=st.1.length:=by omega
 have s:stepT no ms st.1 st.1.length=cp no ms st.1:=by unfold stepT;rw[cB]
 rw[s];refine aZ f [(21,ae)] rfl (by simp) (AK.leaveD rfl rfl ?_);refine cu f rfl ?_ ?_
 .simp only[ar,cr,jz,aC,aB];omega
 refine AK.yp () [2] rfl rfl rfl rfl rfl rfl rfl rfl rfl ?_ rfl rfl rfl rfl jF;simp only[ar.cat,ar,cr,aC,aB];and_intros<;>first|exact cq.same|rfl|grind
def H0(k:Int)(s:bw)(keep:List Int)(a:gF s)(e:Pb s)(d:fJ k s=ae):Ev X 47 [dI k,l4 s,cI.sl keep] [] (.fK [.agg l6,.one (.c (.bool ae))]) []:=by
 refine Ev.mb Tryz.func47 rfl rfl rfl λf=>?_;have b:bR X [(30,qb)]:=.cons tr .nil;refine aZ b [(15,ab)] rfl ?_ ?_
 .simp only[ar,cP.list_fn,cP.au,cX.list_fn,cX.au,cH.list_fn,cH.au,d,a.p,a.sn,aC,aB,fE];exact e.sm
 refine AK.freeze 6 1 rfl rfl rfl ?_;refine AK.lD tok [] rfl ?_ rfl rfl rfl jF;simp
abbrev Uy(s:bw)(a:List cW)(l:List Int):List bm:=[th s,.cells 30 l6,.cells 30 [kn cP s.1,.vec 4 2 a.length (cX.fn a),kn cH s.2.2,iN,.bp 5 (.sl l.length 1 0 l.length)],th s,.vec 68 2 a.length (cX.fn a),xz l.length l]
def H3(k:Int)(s:bw)(keep:List Int)(d:gF s)(o:Pb s)(q:fJ k s=ab):Ev X 47 [dI k,l4 s,cI.sl keep] [] (tL 0 (s.1,s.2.1.filter (λx=>keep.contains x.1),s.2.2) (fx (s.2.1.filter λx=>keep.contains x.1)) (s.1.map (·.1)).length 0 (s.1.map (·.1)).length) [xz (s.1.map (·.1)).length (s.1.map (·.1))]:=by
 refine Ev.kW tok Tryz.func47 rfl rfl rfl λw=>?_;have c:bR X [(30,qb),(32,sD),(29,Cw),(28,xh)]:=.cons tr (.cons vg (.cons Gk (.cons CF .nil)));have y:=d.p;have u:=d.sn;refine aZ c [(15,ae),(1000006,ab)] rfl ?_ ?_
 .simp only[ar,cP.list_fn,cP.au,cX.list_fn,cX.au,cH.list_fn,cH.au,q,d.p,d.sn,d,aC,aB,er];exact o.sm
 refine AK.iv 2 1 68 2 (cX.fn []) rfl rfl ?_;refine AK.wv 2 4 3 1 (cI.fn []) rfl rfl ?_;refine cu c rfl aq ?_;refine AK.bS 6 (λi=>i<=s.2.1.length) (λi:Nat=>[(2,cI.sl keep),(4,.e (.one (.ptr 0 0))),(6,.e (.one (.ptr 1 0))),(8,.e (.one (.ptr 2 0))),(9,.e (.one (.ptr 3 0))),(10,dI i)])
  (λi=>Uy s ((s.2.1.take i).filter λx=>keep.contains x.1) []) (λi=>s.2.1.length-i) 0 rfl ?_ rfl ?_ rfl (by omega) ?_
 .simp
 .simp[cP.list_fn,cX.list_fn,cH.list_fn]
 .intro i hi;have n:=filter_le s.2.1 (λx=>keep.contains x.1) hi;by_cases h:i<s.2.1.length
  .have g:s.2.1.getD i cX.b8=s.2.1.getD i (0,[]):=rfl;have b:(s.2.1.take (i+1)).filter (λx=>keep.contains x.1)=if keep.contains (s.2.1.getD i (0,[])).1=ab then(s.2.1.take i).filter (λx=>keep.contains x.1)++[s.2.1.getD i (0,[])]else(s.2.1.take i).filter (λx=>keep.contains x.1):=rf h (0,[]);generalize(s.2.1.take i).filter (λx=>keep.contains x.1)=a at *;generalize s.2.1.getD i (0,[])=x at *;cases l:keep.contains x.1 with
   |true =>
    rw[bc l]at b;have j:=cX.cm a x;refine aZ c [(30,ab),(40,ab)] rfl ?_ (AK.aQ (i+1) rfl (by simp) ?_ h (by omega))
    .simp[-ah,-List.contains_eq_mem,g,h,l,cI.list_fn,cI.au,bt,show i68.bytes=32 from rfl];omega
    .rw[b];simp only[ar.cat,ar,bD,g,bT,eb,aC,aB];and_intros<;>first|exact cq.same|exact j|rfl|omega
   |false =>
    rw[aW (by rw[l];simp)]at b;refine aZ c [(30,ab),(40,ae)] rfl ?_ (AK.aQ (i+1) rfl (by simp) ?_ h (by omega))
    .simp[-ah,-List.contains_eq_mem,g,h,l,cI.list_fn,cI.au,bt];omega
    .rw[b];simp
  obtain rfl:i=s.2.1.length:=by omega
  rw[cB]at n⊢;have v:=AT s.2.1 λx=>keep.contains x.1;have m:j0 (s.1,s.2.1.filter (λx=>keep.contains x.1),s.2.2):=λx j=>d.s2 x (nE.1 j).1;have t:=o.aN;generalize s.2.1.filter (λx=>keep.contains x.1)=sn at *;refine aZ c [(30,ae)] rfl (by simp) (AK.leaveD rfl rfl ?_);refine cu c rfl aq ?_;refine AK.bS 6 (λi=>i<=s.1.length) (λi:Nat=>[(2,cI.sl keep),(4,.e (.one (.ptr 0 0))),(6,.e (.one (.ptr 1 0))),(8,.e (.one (.ptr 2 0))),(11,dI i)])
   (λi=>Uy s sn ((s.1.take i).map (·.1))) (λi=>s.1.length-i) 0 rfl (by simp) rfl (by simp) rfl (by omega) ?_
  intro i hi;have r:((s.1.take i).map (·.1)).length=i:=by simp;omega
  by_cases h:i<s.1.length
  .have g:s.1.getD i cP.b8=s.1.getD i (0,[]):=rfl;have b:=map_take (f:=λp:bo=>p.1) h (0,[]);generalize(s.1.take i).map (λp:bo=>p.1)=a at *;generalize s.1.getD i (0,[])=p at *;have j:=cI.cm a p.1;refine aZ c [(57,ab)] rfl ?_ (AK.aQ (i+1) rfl (by simp) ?_ h (by omega))
   .simp[-ah,g,h,bt,show i3.bytes=8 from rfl];omega
   .rw[b];simp only[ar.cat,ar,bD,g,bT,eb,aC,aB];and_intros<;>first|exact cq.same|exact j|rfl|omega
  obtain rfl:i=s.1.length:=by omega
  rw[cB];refine aZ c [(57,ae)] rfl (by simp) (AK.leaveD rfl rfl ?_);refine cu c rfl ?_ ?_
  .simp only[ar,cP.list_fn,cP.au,cX.list_fn,cX.au,cH.list_fn,cH.au,aC,aB];exact⟨m,by omega,by omega⟩
  refine AK.yp () [5] rfl rfl rfl rfl rfl rfl rfl rfl rfl ?_ rfl rfl rfl rfl jF;simp[cX.list_fn]
def x6(k:Int)(w:br)(by_:Int)(t:List bu)(a:EY w)(B:dz k w=ab)(F:1<=by_/\by_<=2)(r:cE t=ab)(C:fQ k w.1 t=ae):
  Ev X 51 [dI k,nu w,dI by_,cF.sl t] [] (tL 0 (mr k w by_ t).1 (mr k w by_ t).2.1 w.2.2.length 0 w.2.2.length) [xz w.2.2.length w.2.2]:=by
 refine Ev.kW tok Tryz.func51 rfl rfl rfl λL=>?_;have g:bR X [(10,gR),(63,Ao),(85,R8),(53,LJ w),(60,vd),(61,xf)]:=.cons iz (.cons B8 (.cons t85 (.cons (yv (xA w a.s a.n a.l)) (.cons Az (.cons Ay .nil)))));have G:=a.m;have d:(w.1,w.2.1,w.2.2)=w:=rfl;have q:=gf.1 B;have y:=q.toAH.Uf;have J:=y.Rm;have f:=tj (X:=X) k w.1 by_ t q.key a.s J (jg r) y.eF;rw[C,aW (by simp)]at f;refine aZ g [(18,ae),(23,ae),(28,ae)] rfl ?_ ?_
 .simp only[ar,cP.list_fn,cP.au,cX.list_fn,cX.au,cH.list_fn,cH.au,cI.list_fn,cI.au,cF.list_fn,cF.au,d,B,F,r,G,js,nH,er,fE,aC,aB]
 refine AK.cQ f [] rfl ?_;have p:=y.save (k:=k) (t:=t) (by_:=by_) (by have:=sr 1 q.sa λx I=>(q.sn x I).1;omega) r C;have v:(ga k w.1 by_ t).2.1.length=w.1.2.1.length+1:=by simp[ga]
 have b:(ga k w.1 by_ t).2.1.getD ((ga k w.1 by_ t).2.1.length-1) (0,[])=fU (ey w.1) k t:=by rw[v];simp[ga,ah]
 have o:=p.a4 (fU (ey w.1) k t) (by grind);have H:=lU o.2;have K:=j5 (fU (ey w.1) k t).2;have E:=p.a3;have D:=a.n;unfold mr;generalize ga k w.1 by_ t=s' at *;generalize fU (ey w.1) k t=x at *;have j:((s'.2.1.length:Int)-1).toNat=s'.2.1.length-1:=by omega
 have A:s'.2.1.getD ((s'.2.1.length:Int)-1).toNat cX.b8=x:=by rw[j];exact b
 refine aZ g [(42,ae)] rfl ?_ ?_
 .simp only[ar,A,cP.list_fn,cP.au,cX.list_fn,cX.au,cH.list_fn,cH.au,cI.list_fn,cI.au,cL.list_fn,cL.au,d,a.s,a.n,a.l,bt,er,fE,aC,aB];have:=o.2.1;and_intros<;>omega
 rw[A];simp only[cL.list_fn];generalize fw x.2=ns at *;refine AK.bS 5 (λi=>i<=ns.length) (λi:Nat=>[(5,.e (.one (.ptr 0 0))),(8,.e (.one (.ptr 1 0))),(10,.e (.one (.ptr 2 0))),(12,.e (.one (.ptr 4 0))),(13,cI.sl ns),(14,dI i)])
  (λi=>[n9 w,.cells 30 l6,th s',xz w.2.2.length w.2.2,.cells 30 (oL 3 s' ((ns.take i).foldl jK w.2.1) w.2.2.length 0 w.2.2.length)]) (λi=>ns.length-i) 0 rfl ?_ rfl ?_ rfl (by omega) ?_
 .simp
 .simp[cP.list_fn,cX.list_fn,cH.list_fn,cI.list_fn]
 intro i hi;by_cases h:i<ns.length
 .have c:ns.getD i cI.b8=ns.getD i 0:=rfl;have z:=qc jK w.2.1 h;have u:=gd w.2.1 (ns.take i);rw[List.length_take]at u;generalize(ns.take i).foldl jK w.2.1=a2 at *;have e:=cI.list_fn a2;refine aZ g [(58,ab)] rfl ?_ (AK.aQ (i+1) rfl ?_ ?_ h (by omega))
  .simp[-ah,c,h,e,cI.au,bt];omega
  .simp
  .rw[z];simp[-ah,c,e]
 obtain rfl:i=ns.length:=by omega
 rw[cB];refine aZ g [(58,ae)] rfl (by simp) (AK.leaveD rfl rfl ?_);refine cu g rfl aq ?_;refine AK.yp () [3] rfl rfl rfl rfl rfl rfl rfl rfl rfl ?_ rfl rfl rfl rfl jF;simp
def i80:TI:=⟨1,8,ae,TypeDesc.map 3 4,[.val (.map af)],[]⟩
def g80:du ag 80 i80:=⟨Tryz.underlying80,rfl,⟨Tryz.t80,_,fi Tryz.type80,rfl,rfl,rfl,rfl,⟨#[],rfl⟩,rfl⟩,λh=>absurd rfl h⟩
def kS:dj ag ((80,i80)::tt):=dj.cons g80 tok
abbrev U9(v:aj):D:=.e (.one (.v v))
abbrev EJ(a:aj)(l:List Int):bm:=.dg (tp a l)
def Rj(c:aj)(a l:List Int):Ev X 41 [U9 c,cI.sl l] [EJ c a] (.fK []) [EJ c (a++l)]:=by
 refine Ev.bQ Tryz.func41 rfl λe=>?_;have d:=e.sl 1 rfl;refine AK.fa fC kS bR.nil [] 100 rfl aq ?_;refine AK.bS 1 (λi=>i<=l.length) (λi:Nat=>[(0,U9 c),(6,cI.sl l),(7,dI l.length),(8,dI i)]) (λi=>[EJ c (a++l.take i)]) (λi=>l.length-i) 0 rfl (by simp) rfl (by simp) rfl (by omega) ?_;intro i hi;by_cases h:i<l.length
 .have f:l.getD (i:Int).toNat cI.b8=l.getD i 0:=by rw[bD];rfl
  refine AK.fa fC kS bR.nil [(9,ab)] 100 rfl (by simp;omega) ?_;refine AK.law (bF.Ra rfl Tryz.underlying80 Tryz.underlying3 (b:=0) rfl rfl rfl rfl) rfl rfl ?_;refine AK.fa fC kS bR.nil [] 100 rfl ?_ (AK.aQ (i+1) rfl ?_ ?_ h (by omega))
  .simp[bt];omega
  .simp
  .rw[bx h 0,<-jo];simp only[ar.cat,ar,f,aB]
 obtain rfl:i=l.length:=by omega
 rw[cB];refine AK.fa fC kS bR.nil [(9,ae)] 100 rfl (by simp) (AK.leaveD rfl rfl ?_);exact cg.sW [0] rfl (by simp) rfl rfl rfl nY
def AD(a:aj)(l:List Int)(n:Int):Ev X 44 [dI n,.e (.one (.c (.rp [.val a])))] [EJ a l] (dB (!l.contains n)) [EJ a l]:=by refine Ev.bQ Tryz.func44 rfl λd=>?_;refine AK.fa fC kS bR.nil [] 100 rfl aq ?_;refine AK.law (bF.NL rfl Tryz.underlying80 Tryz.underlying3 (λw=>Tryz.zeroValue4 w) (b:=0) rfl rfl rfl) rfl rfl ?_;exact AK.fa fC kS bR.nil [] 100 rfl aq (AK.dY [0] rfl (by simp) rfl rfl rfl nY)
def HK(p:bo)(n:Int):Ev X 46 [qo p,.e (.one (.c (.rp [.int .i64 n])))] [] (dB (p.1==n)) []:=by refine Ev.bQ Tryz.func46 rfl λa=>?_;exact bA rfl aq (AK.bq rfl)
def EK(x:cW)(b:x.2.length<=4000000)(a:(cd x.2).length<=4000000):Ev X 43 [F4 x] [] (cI.sl (gY x)) []:=by refine Ev.bQ Tryz.func43 rfl λc=>?_;refine bA rfl aq ?_;refine AK.cQ (AE x b a) [] rfl ?_;exact bA rfl aq (AK.bq rfl)
end
section
variable {X:Cx ag}
abbrev KpI:={q:List Int // q.length<=5}
def HY(m:Nat)(b:Nat->Int)(g:Bytes b)(k:Nat)(o:k<=500000)(j:m<=1048576):
  dW (ι:=KpI) X 49 [.e (.one (.ptr 0 0))] [mJ m b k] (λq=>cI.sl q.1) (λ_=>[mJ m b (k+5:Nat)]):=by
 refine dW.qy Tryz.func49 rfl rfl rfl λp=>?_;refine aY [(1000002,ab)] rfl aq ?_;refine AK.ik 3 3 1 rfl rfl ?_;refine bA rfl aq ?_;refine AK.bS 2 (λs:Nat×List Int=>1<=s.1/\s.1<=6/\s.2.length+1<=s.1) (λs=>[(0,.e (.one (.ptr 0 0))),(3,.e (.one (.vec 1 1 s.2.length (cI.fn s.2)))),(4,dI s.1)]) (λs=>[mJ m b (k+(s.1-1):Nat),.vec 3 1 s.2.length (cI.fn s.2)]) (λs=>6-s.1) (1,[]) rfl ?_ rfl ?_ rfl ⟨by decide,by decide,by decide⟩ ?_
 .simp
 .simp
 rintro⟨n,a⟩ ⟨l,i,f⟩;simp only at l i f;by_cases h:n<=5
 .refine aY [(7,ab)] rfl (by simp only[ar,bh];omega) ?_;refine AK.cP (gv m b g (k+(n-1)) 2 (by omega) j (by omega)) [0] rfl (λ_=>rfl) ?_;rintro⟨v,v0,v1⟩;by_cases c:v=0
  .have d:=cI.cm a (n:Int);refine aY [(12,ab)] rfl ?_ (AK.aQ (n+1,a++[(n:Int)]) rfl ?_ ?_ ⟨by simp only;omega,by simp only;omega,by grind⟩ (by simp only;omega))
   .simp only[ar,c,bt,show i3.bytes=8 from rfl,jS,aC,aB];and_intros<;>omega
   .simp only[ar.cat,ar,bT,eb,aC,aB];and_intros<;>first|exact cq.same|exact d|rfl|omega
   .simp only[ar.cat,ar,bT,eb,aC,aB];and_intros<;>first|exact cq.same|exact d|rfl|omega
  .refine aY [(12,ae)] rfl ?_ (AK.aQ (n+1,a) rfl ?_ ?_ ⟨by simp only;omega,by simp only;omega,by simp only;omega⟩ (by simp only;omega))
   .simp only[ar,bt,dG,cT,aC,aB];and_intros<;>first|exact c|omega
   .simp only[ar.cat,ar,aC,aB];and_intros<;>first|exact cq.same|rfl|omega
   .simp only[ar.cat,ar,aC,aB];and_intros<;>first|exact cq.same|rfl|omega
 obtain rfl:n=6:=by omega
 refine aY [(7,ae)] rfl (by simp) (AK.leaveD rfl rfl ?_);refine bA rfl aq ?_;refine AK.l5 ⟨a,by omega⟩ (AK.dY [0] rfl ?_ rfl rfl rfl xY);simp
end
def zY.fn(l:List Int):zY l.length (cI.fn l):=λ_ _=>⟨_,_,rfl⟩
def D7.ta{s:bw}(h:D7 s):TA s:=by refine⟨⟨h.pl,λp e=>⟨(h.p p e).no,(h.p p e).len.2⟩,by have:=h.sl;omega,λx a=>⟨(h.s x a).no,?_⟩,h.hl,λx a=>(h.h x a).2⟩,h.Rl,h.xc,λx a=>(h.h x a).1⟩;obtain⟨no,t,_,_,d,rfl⟩:=(h.s x a).ex;have j:=lP d;refine⟨by simpa[fU]using j,λy c=>?_⟩;simp only[fU,nG]at c;obtain⟨f,i,rfl⟩:=c;have g:=((mo.1 d).1 f i).2;simp only[dN,bJ,bh]at g;have:=j4 f.2;simp only[ua,jT];omega
structure Dk(w:br):Prop where
 s:TA w.1
 m:w.2.1.length<=10000
 l:w.2.2.length<=30
section
variable {X:Cx ag}
abbrev RP(v:aj)(l:List Int):bm:=.dg (PM (G4 v l.length (cI.fn l)))
abbrev Va:bm:=.dg (jX 3 1 (.nil af) 0 [])
abbrev Oi(v:aj)(w:br):List A:=[kn cP w.1.1,kn cX w.1.2.1,kn cH w.1.2.2,kn cI w.2.1,.c (.val v)]
abbrev x7(v:aj)(w:br):bm:=.cells 30 (Oi v w)
abbrev tV(v:aj)(w:br):D:=.fK [.agg (Oi v w),.one (.c (.bool ab))]
abbrev C8:D:=.fK [.agg [.any,.any,.any,.any,.any],.one (.c (.bool ae))]
def E3(w:br)(d:gF w.1)(e:w.2.1.length<=4000000)(g:w.2.2.length<=4000000)(a:w.2.2≠[]):dW (ι:=aj) X 24 [nu w] [Va] (λv=>tV v (eC w)) (λv=>[RP v (eC w).2.2]):=by
 obtain⟨st,ms,c⟩:=w;cases c with
 |nil=>exact absurd rfl a
 |cons no r =>
  exact dW.Jz (dW.Qj (cI.fn r) (EZ st ms (no::r) no r rfl d e g) (by show 1+r.length<=r.length+1;omega) (λj f=>(cI.Gu no r rfl j f).symm) (zY.fn r)) (λ_ _ _ h=>h.1) (λ_=>rfl) (λ_=>rfl) rfl rfl
def E4(w:br)(c:gF w.1)(d:w.2.1.length<=4000000)(a:w.2.2=[]):dW (ι:=Unit) X 24 [nu w] [] (λ_=>C8) (λ_=>[]) :=
 (xy w c d a).Dx.le (λ_=>rfl) (λ_=>by simp)
def Oj(k:Int)(s:bw)(keep:List Int)(c:gF s)(d:Pb s)(a:fJ k s=ab):dW (ι:=aj) X 47 [dI k,l4 s,cI.sl keep] [Va] (λv=>tV v (HZ k s keep).1) (λv=>[RP v (HZ k s keep).1.2.2]):=by have e:HZ k s keep=(((s.1,s.2.1.filter λx=>keep.contains x.1,s.2.2),fx (s.2.1.filter λx=>keep.contains x.1),s.1.map (·.1)),ab):=bc a;rw[e];exact dW.Jz (dW.Qj (cI.fn (s.1.map (·.1))) (H3 k s keep c d a) (by omega) (λj f=>by rw[bz]) (zY.fn _)) (λ_ _ _ h=>h.1) (λ_=>rfl) (λ_=>rfl) rfl rfl
def LK(k:Int)(w:br)(by_:Int)(t:List bu)(d:EY w)(f:dz k w=ab)(c:1<=by_/\by_<=2)(a:cE t=ab)(e:fQ k w.1 t=ae):dW (ι:=aj) X 51 [dI k,nu w,dI by_,cF.sl t] [Va] (λv=>tV v (mr k w by_ t)) (λv=>[RP v w.2.2]) :=
 dW.Jz (dW.Qj (cI.fn w.2.2) (x6 k w by_ t d f c a e) (by omega) (λj g=>by rw[bz]) (zY.fn _)) (λ_ _ _ h=>h.1) (λ_=>rfl) (λ_=>rfl) rfl rfl
def LL(k:Int)(w:br)(by_:Int)(t:List bu)(c:EY w)(h:(EW k w by_ t).2=ae):dW (ι:=Unit) X 51 [dI k,nu w,dI by_,cF.sl t] [] (λ_=>C8) (λ_=>[]):=by have a:=x5 (X:=X) k w by_ t c;rw[h]at a;exact a.Dx.le (λ_=>rfl) (λ_=>by simp)
inductive KV (ι:Type)
 |n
 |bad (q:ι)
 |r7 (q:ι)
 |done (q:ι) (v:aj)
def InvV(p:ι->Bool):KV ι->(Nat->Bool)->Prop
 |.n,D=>D 5=ae/\D 6=ae
 |.bad q,D=>D 5=ab/\p q=ae
 |.r7 q,D=>D 5=ab/\D 6=ae/\p q=ab
 |.done q _,D=>D 5=ab/\D 6=ab/\p q=ab
abbrev Vb(u:Int)(v:aj)(w:br)(r:List D):List D:=.e (.agg (Oi v w))::.e (.one (.ptr 0 0))::dI u::dI (1+u)::.e (.one (.ptr 0 0))::r
abbrev xV{k:Nat}(u:Int)(v:aj)(w:br):KV (om k)->Nat->D
 |.n,i=>(Vb u v w [.any,.any,.any,.any,.any,.e (.one (.ptr 4 0)),.any,.any]).getD i .any
 |.bad q,i=>(Vb u v w [cF.sl q.1.1,C8,C8,.e (.agg [.any,.any,.any,.any,.any]),dB ae,.e (.one (.ptr 4 0)),.any,dB ae]).getD i .any
 |.r7 q,i=>(Vb u v w [cF.sl q.1.1,.any,.any,.any,.any,.e (.one (.ptr 4 0)),.any,.any]).getD i .any
 |.done q v',i=>(Vb u v w [cF.sl q.1.1,tV v' (mr 7 w (1+u) q.1.1),tV v' (mr 7 w (1+u) q.1.1),.e (.agg (Oi v' (mr 7 w (1+u) q.1.1))),dB ab,.e (.one (.ptr 4 0)),.any,dB ab]).getD i .any
abbrev LV{k1:Nat}(m:Nat)(b:Nat->Int)(k:Int)(c:Bool):KV (om k1)->bm
 |.n=>match c with
  |false=>mJ m b k
  |true=>mJ m b (k+1)
 |.bad q|.r7 q|.done q _=>mJ m b q.1.2
abbrev Xp{k1:Nat}(v:aj)(w:br):KV (om k1)->bm
 |.done _ v'=>RP v' w.2.2
 |_=>RP v w.2.2
abbrev Xq{k1:Nat}(u:Int)(w:br)(a c:Bool)(d:KV (om k1)):List bm:=match a,c with
 |false,_=>[]
 |true,ae=>[.cells 30 l6]
 |true,ab=>match d with
  |.done q v'=>[x7 v' (mr 7 w (1+u) q.1.1)]
  |_=>[.cells 30 [.any,.any,.any,.any,.any]]
abbrev SV{k1:Nat}(m:Nat)(b:Nat->Int)(k:Int)(u:Int)(v:aj)(w:br)(a:KV (om k1))(D:Nat->Bool):List bm :=
 LV m b k (D 2) a::Xp v w a::.cells 30 l6::x7 v w::Xq u w (D 10) (D 11) a
section
variable {m:Nat}{b:Nat->Int}{k u:Int}{k1:Nat}{w:br}{p:om k1->Bool}
def InvV.upd{a:KV (om k1)}{D:Nat->Bool}(h:InvV p a D)(c:az 5 n=ae)(e:az 6 n=ae):InvV p a (dC n D):=by have f:dC n D 5=D 5:=cG c;have d:dC n D 6=D 6:=cG e;cases a<;>simp only[InvV,f,d]at*<;>exact h
def _root_.Go.AM.ox.qV(h2:az 2 n=ae)(i:az 5 n=ae)(l:az 6 n=ae)(d:az 10 n=ae)(e:az 11 n=ae)(h:∀a D R B T,InvV p a D->(∀j,ja all n j=ab->D j=ab)->OA X N all o (lX all φ (xV u v w a) n) (R::B::.cells 30 l6::x7 v w::T) (xV u v w a n) (R::B::.cells 30 l6::x7 v w::T)):
  ox X N all φ (xV (k:=k1) u v w) (SV m b k u v w) (InvV p) n o :=
 ox.of λa D g h1 _=>by have e2:dC n D 2=D 2:=cG h2;have c:dC n D 10=D 10:=cG d;have f:dC n D 11=D 11:=cG e;refine⟨g.upd i l,?_⟩;show OA X N all o _ (SV m b k u v w a D) _ (LV m b k (dC n D 2) a::Xp v w a::.cells 30 l6::x7 v w::Xq u w (dC n D 10) (dC n D 11) a);rw[e2,c,f];exact h a D _ _ _ g h1
def _root_.Go.AM.ox.Vd(g:dj ag T)(hC:bR X CT)(ho:ar obs)(h:∀a R B c,vH T CT [] all (lX all φ (xV (k:=k1) u v w a) n) (R::B::.cells 30 l6::x7 v w::c) o=aa (xV u v w a n,af,obs):=by intro a R B c;cases a<;>rfl)(h2:az 2 n=ae:=by rfl)(f:az 5 n=ae:=by rfl)(i:az 6 n=ae:=by rfl)(d:az 10 n=ae:=by rfl)(e:az 11 n=ae:=by rfl):ox X N all φ (xV (k:=k1) u v w) (SV m b k u v w) (InvV p) n o :=
 .qV h2 f i d e λa _ R B c _ _=>OA.eval g hC (h a R B c) ho
def _root_.Go.AM.ox.Ve(e:dj ag T)(hC:bR X CT)(hb:∀q R B a,vH T CT [] all (lX all φ (xV (k:=k1) u v w (.bad q)) n) (R::B::.cells 30 l6::x7 v w::a) o=aa (xV u v w (.bad q) n,af,[]):=by intro q R B a;rfl)(j:∀q v' R B a,vH T CT [] all (lX all φ (xV (k:=k1) u v w (.done q v')) n) (R::B::.cells 30 l6::x7 v w::a) o=aa (xV u v w (.done q v') n,af,[]):=by intro q v' R B a;rfl)(h:ja all n 5=ab:=by rfl)(r:ja all n 6=ab:=by rfl)(h2:az 2 n=ae:=by rfl)(i:az 5 n=ae:=by rfl)(l:az 6 n=ae:=by rfl)(c:az 10 n=ae:=by rfl)(d:az 11 n=ae:=by rfl):ox X N all φ (xV (k:=k1) u v w) (SV m b k u v w) (InvV p) n o :=
 .qV h2 i l c d λs D R B a f h1=>by
  have d5:=h1 5 h;have g:=h1 6 r;cases s with
  |n=>exact absurd d5 (by rw[f.1];simp)
  |bad q=>exact OA.fW e hC (hb q R B a)
  |r7 q=>exact absurd g (by rw[f.2.1];simp)
  |done q v'=>exact OA.fW e hC (j q v' R B a)
def kY{e:KV (om k1)}{D:Nat->Bool}{a c d:Bool}(h:D 2=a)(g:D 10=c)(f:D 11=d):SV m b k u v w e D=LV m b k a e::Xp v w e::.cells 30 l6::x7 v w::Xq u w c d e:=by subst h g f;rfl
end
abbrev YH:Fr:=[(0,.e (.one (.ptr 0 0))),(2,.e (.one (.ptr 2 0))),(3,.e (.one (.ptr 3 0)))]
abbrev Xr(m:Nat)(b:Nat->Int)(k:Nat)(w:br)(v:aj):List bm:=[mJ m b k,RP v w.2.2,.cells 30 l6,x7 v w]
def Ol{k:Int}{w:br}{by_:Int}{t:List bu}(h:(dz k w&&!fQ k w.1 t)=ae):(EW k w by_ t).2=ae:=by
 unfold EW;split
 .rename_i a;split
  .rfl
  .rename_i c;unfold RO at a;grind
 .rfl
end
def Uz(h:o.op=.call {callee:=.builtin .append,args:=#[x,y],argTypes:=#[28,28]}):ly ag o x y 3 i3 :=
 ⟨⟨28,28,i28,i28,h,tok _ _ rfl,rfl,tok _ _ rfl,rfl⟩,tok _ _ rfl,by decide,by decide⟩
abbrev SwI:={q:br×Nat // Dk q.1/\q.2<=3000}
def TW.dr{w:br}(h:TW n w)(a:n<=10000):Dk w:=⟨h.s,by have:=h.m;omega,by have:=h.l;omega⟩
section
variable {X:Cx ag}[X.jw]
set_option maxRecDepth 20000 in
def xB(m:Nat)(b:Nat->Int)(K:Bytes b)(J:m<=1048576):
  dW (ι:=SwI) X 22 [.e (.one (.ptr 0 0))] [mJ m b (0:Nat)] (λq=>nu q.1.1) (λq=>[mJ m b q.1.2]):=by
 refine dW.mb tok Tryz.func22 rfl rfl rfl λhf=>?_;refine AK.spare 3 1 ?_;refine bA rfl aq ?_;refine AK.cP (Ew m b K 0 (by omega) J) [0] rfl (λ_=>rfl) ?_;rintro⟨⟨s,k1⟩,hD,A,R⟩;simp only at hD A R;have U:=hD.ta;refine bA rfl aq ?_;refine AK.cP (HY m b K k1 (by omega) J) [0] rfl (λ_=>rfl) ?_;rintro⟨kp,hkp⟩;refine bA rfl aq ?_;apply AK.Tg (ι:={q:br×aj // TW 6000 q.1}) (λ_=>YH) (λq=>Xr m b (k1+5) q.1.1 q.1.2)
 .intro out;have G:=TW.beg (k:=7) (keep:=kp) U;cases V:fJ 7 s with
  |true =>
   refine AK.cP (Oj 7 s kp U.Gn U.Sa.toPb V) [1] rfl (λ_=>rfl) ?_;intro v;refine aY [(1000002,ab)] rfl aq ?_;exact out ⟨((HZ 7 s kp).1,v),G⟩ _ _ rfl (by simp)
  |false =>
   refine AK.cQ (H0 7 s kp U.Gn U.Sa.toPb V) [] rfl ?_;refine aY [(1000002,ab)] rfl aq ?_;refine AK.Qi 1 3 4 (λv=>G4 v 0 (cI.fn [])) (λa M=>⟨.sl 0 0 (λ_ _=>ai) (ba _) (by omega) (λh=>by cases h) (λi hi=>by omega) (λh=>by omega) (λi hi=>by omega) λi hi=>by omega,_,_,rfl,λh=>by omega⟩) (by decide) rfl rfl rfl λv0=>?_;refine AK.norm (Xr m b (k1+5) EX v0) rfl ?_ ?_
   .simp
   exact out ⟨(EX,v0),TW.nil⟩ _ _ rfl (by simp)
 rintro⟨⟨w0,v0⟩,T⟩;simp only at T;refine bA rfl aq ?_;refine AK.cP (gv m b K (k1+5) 4 (by omega) J (by omega)) [0] rfl (λ_=>rfl) ?_;rintro⟨u0,u0l,u0h⟩;refine bA rfl aq ?_;refine AK.bS 4 (λq:br×aj×Nat×Nat=>q.2.2.1<=3/\TW (6000+240*(3-q.2.2.1)) q.1/\q.2.2.2+500*q.2.2.1<=2600) (λq=>YH++[(5,dI q.2.2.1)]) (λq=>Xr m b q.2.2.2 q.1 q.2.1) (λq=>q.2.2.1) (w0,v0,u0.toNat,k1+5+1) rfl ?_ rfl ?_ rfl ⟨by simp only;omega,T.mono (by simp only;omega),by simp only;omega⟩ ?_
 .simp only[ar.cat,ar,aC,aB];omega
 .simp
 rintro⟨w,v,n,k⟩ ⟨hn3,G,V⟩;simp only at hn3 G V;have L:=G.sz (by omega);by_cases hn:0<n
 .refine bE [(21,ab)] rfl (by simp only[ar,bh];omega) ?_;refine AK.cP (gv m b K k 3 (by omega) J (by omega)) [0] rfl (λ_=>rfl) ?_;rintro⟨p,p0,p1⟩;by_cases hp:p=0
  .refine bE [(26,ab),(1000006,ab)] rfl (by simp[hp]) ?_;have hv:=pd m b (k+1) 2 (by omega);have N:ar [((k+1:Nat):Int)=((k+1:Nat):Int).toNat,uz b=uz (NF (uz b)),Bytes (NF (uz b)),((k+1:Nat):Int)<=4000000,m<=1048576,(1:Int)<=2,(2:Int)<=4000000]:=⟨rfl,rfl,K,by omega,J,by omega,(by decide:(2:Int)<=4000000)⟩
   obtain⟨u,hu⟩:∃u,u=kI m b (k+1) 2:=⟨_,rfl⟩;have Q:ar [bt .i64 (1+u)]:=by simp only[ar,bt];omega
   have z:bR X [(50,U7)]:=.cons t50 .nil;have O:=Gb (X:=X) m b K (k+1+1) (by omega) J;have I:∀q:om (k+1+1),(dz 7 w&&!fQ 7 w.1 q.1.1)=ab->dW (ι:=aj) X 51 [dI 7,nu w,dI (1+u),cF.sl q.1.1] [Va] (λv=>tV v (mr 7 w (1+u) q.1.1)) (λv=>[RP v w.2.2]):=λq B=>by simp only[bJ,hI]at B;exact LK 7 w (1+u) q.1.1 L B.1 (by omega) q.2.1 B.2
   have S:∀q:om (k+1+1),(dz 7 w&&!fQ 7 w.1 q.1.1)=ae->dW (ι:=Unit) X 51 [dI 7,nu w,dI (1+u),cF.sl q.1.1] [] (λ_=>C8) (λ_=>[]):=λq B=>LL 7 w (1+u) q.1.1 L (Ol B);refine AK.P0 fC (xV (k:=k+1+1) u v w) (SV m b ((k+1:Nat):Int) u v w) (InvV λq=>dz 7 w&&!fQ 7 w.1 q.1.1) .n ⟨rfl,rfl⟩ rfl rfl rfl rfl
    ⟨.Vd tok z (obs:=[]) aq,.Vd tok z (obs:=[]) aq,?_,.Vd tok z Q,.Vd tok z (obs:=[]) aq,?_,?_,.Ve tok z,.Ve tok z,.Ve tok z,?_,?_,.Ve tok z,aq⟩ ?_
   .refine ox.of λC D o x g=>⟨o.upd rfl rfl,?_⟩
    have d5:D 5=ae:=g 5 (.inr rfl);have d2:D 2=ae:=g 2 (.inl rfl);have f:D 11=ae:=g 11 (.inr rfl);cases C with
    |n =>
     cases d:D 10<;>(
      rw[kY d2 d f,kY (D:=dC 2 D) ki ((cG rfl).trans d) ((cG rfl).trans f),hu];exact eZ (ds:=[]) tok z (σ':=aa _) rfl N)
    |bad q=>exact absurd o.1 (by rw[d5];simp)
    |r7 q=>exact absurd o.1 (by rw[d5];simp)
    |done q v'=>exact absurd o.1 (by rw[d5];simp)
   .refine ox.XN λC D o x g=>?_;have d5:D 5=ae:=g 5 (.inl rfl);have F:D 6=ae:=g 6 (.inr rfl);have d7:D 7=ae:=g 7 (.inr rfl);have Y:D 8=ae:=g 8 (.inr rfl);have W:D 9=ae:=g 9 (.inr rfl);have f:D 11=ae:=g 11 (.inr rfl);have H:D 12=ae:=g 12 (.inr rfl);have d2:D 2=ab:=x 2 rfl;cases C with
    |n =>
     cases d:D 10<;>(
      rw[kY d2 d f];refine⟨om (k+1+1),_,_,pU.pO O [0] rfl rfl rfl rfl (by simp) rfl rfl rfl (λ_=>rfl) rfl (λ_=>rfl),λq=>?_⟩;cases B:(dz 7 w&&!fQ 7 w.1 q.1.1)with
      |false =>
       refine⟨.bad q,⟨λj c=>?_,ki,B⟩,rfl,?_⟩
       .match j,c with
        |0,_|1,_|2,_|3,_|4,_|10,_|11,_|_+13,_=>rfl
        |5,c=>rw[d5]at c;cases c
        |6,c=>rw[F]at c;cases c
        |7,c=>rw[d7]at c;cases c
        |8,c=>rw[Y]at c;cases c
        |9,c=>rw[W]at c;cases c
        |12,c=>rw[H]at c;cases c
       .rw[kY (D:=dC 5 D) ((cG rfl).trans d2) ((cG rfl).trans d) ((cG rfl).trans f)];rfl
      |true =>
       refine⟨.r7 q,⟨λj c=>?_,ki,(cG rfl).trans F,B⟩,rfl,?_⟩
       .match j,c with
        |0,_|1,_|2,_|3,_|4,_|10,_|11,_|_+13,_=>rfl
        |5,c=>rw[d5]at c;cases c
        |6,c=>rw[F]at c;cases c
        |7,c=>rw[d7]at c;cases c
        |8,c=>rw[Y]at c;cases c
        |9,c=>rw[W]at c;cases c
        |12,c=>rw[H]at c;cases c
       .rw[kY (D:=dC 5 D) ((cG rfl).trans d2) ((cG rfl).trans d) ((cG rfl).trans f)];rfl)
    |bad q=>exact absurd o.1 (by rw[d5];simp)
    |r7 q=>exact absurd o.1 (by rw[d5];simp)
    |done q v'=>exact absurd o.1 (by rw[d5];simp)
   .refine ox.XN λC D o x g=>?_;have d5:D 5=ab:=x 5 rfl;have F:D 6=ae:=g 6 (.inl rfl);have d7:D 7=ae:=g 7 (.inr rfl);have Y:D 8=ae:=g 8 (.inr rfl);have W:D 9=ae:=g 9 (.inr rfl);have f:D 11=ae:=g 11 (.inr rfl);have H:D 12=ae:=g 12 (.inr rfl);have d2:D 2=ab:=x 2 rfl;cases C with
    |n=>exact absurd d5 (by rw[o.1];simp)
    |bad q =>
     cases d:D 10<;>(
      rw[kY d2 d f];refine⟨Unit,_,_,pU.m6 (S q o.2) rfl rfl rfl (iQ.agg 1 4 1 rfl rfl (PM.Bb rfl λ_ h=>h.1)) rfl (by simp) rfl (λ_=>rfl) (λ_=>rfl),λ_=>⟨.bad q,⟨λ_ _=>rfl,(cG rfl).trans d5,o.2⟩,rfl,?_⟩⟩
      rw[kY (D:=dC 6 D) ((cG rfl).trans d2) ((cG rfl).trans d) ((cG rfl).trans f)];rfl)
    |r7 q =>
     cases d:D 10<;>(
      rw[kY d2 d f];refine⟨aj,_,_,pU.zX 1 28 4 3 1 rfl rfl rfl (λ_ h=>h.1) (pU.pO (I q o.2.2) [1] rfl rfl rfl rfl (by simp) rfl rfl rfl (λ_=>rfl) rfl (λ_=>rfl)),λv'=>⟨.done q v',⟨λj c=>?_,(cG rfl).trans d5,ki,o.2.2⟩,rfl,?_⟩⟩
      .match j,c with
       |0,_|1,_|2,_|3,_|4,_|5,_|10,_|11,_|_+13,_=>rfl
       |6,c=>rw[F]at c;cases c
       |7,c=>rw[d7]at c;cases c
       |8,c=>rw[Y]at c;cases c
       |9,c=>rw[W]at c;cases c
       |12,c=>rw[H]at c;cases c
      .rw[kY (D:=dC 6 D) ((cG rfl).trans d2) ((cG rfl).trans d) ((cG rfl).trans f)];rfl)
    |done q v'=>exact absurd o.2.1 (by rw[F];simp)
   .refine ox.of λC D o x g=>⟨o.upd rfl rfl,?_⟩
    have d:D 10=ae:=g 10 (.inl rfl);have f:D 11=ae:=g 11 (.inr rfl);cases C<;>cases d2:D 2<;>(
     rw[kY d2 d f,kY (D:=dC 10 D) ((cG rfl).trans d2) ki ((cG rfl).trans f)];exact eZ (ds:=[]) tok z (σ':=aa _) rfl aq)
   .refine ox.of λC D o x g=>⟨o.upd rfl rfl,?_⟩
    have d5:D 5=ab:=x 5 rfl;have F:D 6=ab:=x 6 rfl;have d:D 10=ab:=x 10 rfl;have f:D 11=ae:=g 11 (.inl rfl);have d2:D 2=ab:=x 2 rfl;cases C with
    |n=>exact absurd d5 (by rw[o.1];simp)
    |r7 q=>exact absurd F (by rw[o.2.1];simp)
    |bad q =>
     rw[kY d2 d f,kY (D:=dC 11 D) ((cG rfl).trans d2) ((cG rfl).trans d) ki];exact eZ (ds:=[]) tok z (σ':=aa _) rfl aq
    |done q v' =>
     rw[kY d2 d f,kY (D:=dC 11 D) ((cG rfl).trans d2) ((cG rfl).trans d) ki];exact eZ (ds:=[]) tok z (σ':=aa _) rfl aq
   intro C D o r;have d2:=r 2 (by decide);have d5:=r 5 (by decide);have F:=r 6 (by decide);have d:=r 10 (by decide);have f:=r 11 (by decide);rw[kY d2 d f];cases C with
   |n=>exact absurd d5 (by rw[o.1];simp)
   |r7 q=>exact absurd F (by rw[o.2.1];simp)
   |bad q =>
    obtain⟨⟨t,k'⟩,Z,A,P⟩:=q;simp only at Z A P;refine c6 rfl ?_ (AK.aQ (w,v,n-1,k') rfl ?_ ?_ ⟨by simp only;omega,G.mono (by simp only;omega),by simp only;omega⟩ (by simp only;omega))
    .simp only[ar,bt];omega
    .simp only[ar.cat,ar,aC,aB];omega
    .simp
   |done q v' =>
    obtain⟨⟨t,k'⟩,Z,A,P⟩:=q;have B:=o.2.2;simp only[bJ,hI]at Z A P B;have hW2:=G.save (k:=7) (by_:=1+u) Z (by omega) B.2;refine c6 rfl ?_ (AK.aQ (mr 7 w (1+u) t,v',n-1,k') rfl ?_ ?_ ⟨by simp only;omega,hW2.mono (by simp only;omega),by simp only;omega⟩ (by simp only;omega))
    .simp only[ar,bt];omega
    .simp only[ar.cat,ar,aC,aB];omega
    .simp;rfl
  .refine bE [(26,ae),(1000009,ab)] rfl (by simp[hp]) ?_;by_cases h0:w.2.2=[]
   .refine c6 rfl aq ?_;refine AK.m6 (E4 w L.s L.n h0) rfl rfl rfl (iQ.agg 0 4 1 rfl rfl (PM.Bb rfl λ_ h=>h.1)) rfl (by simp) rfl (λ_=>rfl) (λ_=>rfl) rfl λ_=>?_;refine c6 rfl ?_ (AK.aQ (w,v,n-1,k+1) rfl ?_ ?_ ⟨by simp only;omega,G.mono (by simp only;omega),by simp only;omega⟩ (by simp only;omega))
    .simp only[ar,bt];omega
    .simp only[ar.cat,ar,aC,aB];omega
    .simp
   .refine AK.zX 1 3 4 (E:=3) (k:=1) (cl:=.sl ae 1 w.2.2.length (cI.fn w.2.2)) (by decide) rfl rfl rfl (λ_ h=>h.1) ?_;refine c6 rfl aq ?_;refine AK.cP (E3 w L.s L.n L.l h0) [1] rfl (λ_=>rfl) ?_;intro v';refine c6 rfl ?_ (AK.aQ (eC w,v',n-1,k+1) rfl ?_ ?_ ⟨by simp only;omega,G.step.mono (by simp only;omega),by simp only;omega⟩ (by simp only;omega))
    .simp only[ar,bt];omega
    .simp only[ar.cat,ar,aC,aB];omega
    .simp
 .refine bE [(21,ae)] rfl (by simp only[ar,bM];omega) (AK.leaveD rfl rfl ?_);refine c6 rfl aq ?_;refine AK.cP (gv m b K k 40 (by omega) J (by omega)) [0] rfl (λ_=>rfl) ?_;rintro⟨e,e0,e1⟩;have y:=G.dr (by omega);have hll:=y.l;by_cases x:e=1
  .refine bE [(48,ae),(52,ab)] rfl (by simp[x]) ?_;refine AK.zZ (l:=1) (v0:=v) (n:=w.2.2.length) (Uz rfl) rfl rfl rfl rfl rfl rfl (zY.fn _) rfl ?_ ?_
   .show (w.2.2.length+1)*8<=140737488355328;omega
   refine c6 rfl aq ?_;refine AK.kV ⟨((w.1,w.2.1,w.2.2++[99]),k+1),⟨y.s,y.m,by have:=G.l;simp;omega⟩,by simp only;omega⟩ [0] rfl rfl rfl rfl rfl rfl rfl rfl ?_ rfl rfl rfl rfl iq;simp;exact cI.cm _ _
  refine bE [(1000013,ab)] rfl aq ?_;refine AK.zX 1 3 4 (E:=3) (k:=1) (cl:=.sl ae 1 w.2.2.length (cI.fn w.2.2)) (by decide) rfl rfl rfl (λ_ h=>h.1) ?_;by_cases g:e=0
  .refine bE [(48,ab)] rfl (by simp[g]) ?_;refine AK.kV ⟨((w.1,[],w.2.2),k+1),⟨y.s,by simp,y.l⟩,by simp only;omega⟩ [0] rfl rfl rfl rfl rfl rfl rfl rfl ?_ rfl rfl rfl rfl iq;simp
  .refine bE [(48,ae),(52,ae)] rfl (by simp[x,g]) ?_;refine AK.kV ⟨(w,k+1),y,by simp only;omega⟩ [0] rfl rfl rfl rfl rfl rfl rfl rfl ?_ rfl rfl rfl rfl iq;simp
def uj(m:Nat)(b:Nat->Int)(f:Bytes b)(i:m<=1048576):dW (ι:={w:br // Dk w}) X 6 [.e (.one (.c (.sl ae 1 m (uz b))))] [] (λq=>.fK [.one (.c (.int .i64 7)),.agg (Ub q.1)]) (λ_=>[]):=by refine dW.Dy Tryz.func6 rfl rfl (ez rfl) (AK.of_code ?_);refine bA rfl aq ?_;refine AK.cP (Gq m b i) [] rfl (λ_=>rfl) ?_;rintro⟨g,hm'⟩;refine bA rfl aq ?_;refine AK.cP (xB g b f hm') [1] rfl (λ_=>rfl) ?_;rintro⟨⟨w,k⟩,a,d⟩;simp only at a d;refine bA rfl aq ?_;refine AK.freeze 3 0 rfl rfl rfl ?_;refine AK.il (λ_ _ _ h=>⟨⟨w,a⟩,h⟩) ?_;refine AK.lD tok [] rfl ?_ rfl rfl rfl jF;simp
def E5(m:Nat)(b:Nat->Int)(f:Bytes b)(i:m<=1048576):dW (ι:={w:br // Dk w}) X 15 [.e (.one (.c (.sl ae 1 m (uz b))))] [] (λq=>.fK [.one (.c (.int .i64 7)),.agg (Ub q.1)]) (λ_=>[]):=by refine dW.Dy Tryz.func15 rfl rfl (ez rfl) (AK.of_code ?_);refine bA rfl aq ?_;refine AK.cP (Gq m b i) [] rfl (λ_=>rfl) ?_;rintro⟨g,hm'⟩;refine bA rfl aq ?_;refine AK.cP (xB g b f hm') [1] rfl (λ_=>rfl) ?_;rintro⟨⟨w,k⟩,a,d⟩;simp only at a d;refine bA rfl aq ?_;refine AK.freeze 3 0 rfl rfl rfl ?_;refine AK.il (λ_ _ _ h=>⟨⟨w,a⟩,h⟩) ?_;refine AK.lD tok [] rfl ?_ rfl rfl rfl jF;simp
end
end R1
end Go.AM
