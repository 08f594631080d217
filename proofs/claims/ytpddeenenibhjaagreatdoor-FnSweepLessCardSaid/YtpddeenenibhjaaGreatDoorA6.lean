/- Part 6. No condition. -/
import Derived.Test.YtpddeenenibhjaaGreatDoorA5
set_option linter.all false
set_option maxHeartbeats 8000000
open Go.Proofs
open Go renaming Value → ai, TypeId → aw, Frame → aU, Operand → aC, World → aA, Program → aM, Oper → aB, Goroutine → aq
open Option renaming some → aa, none → af
open Bool renaming true → ab, false → ae
open List renaming getD_eq_getElem?_getD → aj
open Nat renaming beq → av
open Go.Proofs.Tryz renaming prog → ag
namespace Go.AM
variable {n k l b i j:Nat}{E:aw}{H:ai->(Nat->Option Obj)->Prop}{L:Array Bool}{M:Mem}{N:Nat}{P:aM}{S:aq->St->Prop}{c:Code}{g:aq}{o:aB}{s:St}{t:aw}{v:ai}{w:aA}{x y:aC}{α:Type}{η:aC->D}{ι:Type}{σ:List bd}{φ:Fr}{all:List aB}{jJ:Array aw}{cap:List C}{cm:List D}{cs:List aU}{ds:List (Nat×Bool)}{es:Nat->List C}{fo:aC}{gs:Array aq}{obs:List Prop}{off:Nat}{op:BinOp}{ops:Array aB}{ps:List Prop}{rest:List aB}{s':St}{ty:aw}{val:Nat->Nat->ai}{vs:List ai}{w':aA}{xs:Array aC}{σ' σs:List bd}{res:ι->D}{σ1:ι->List bd}
variable {CT:List (Nat×dy)}{K:List It}{Qf:Post}{T:List (Nat×TI)}{ie:TI}
namespace R1
section
variable {X:Cx ag}
def Lv(p:ba)(ns:List Int)(g:p.2.length<=4000000):Ev X 77 [xa p,cI.sl ns] [] (xa (cD p ns)) []:=by
 refine Ev.vK tok Tryz.func77 rfl rfl rfl λm=>?_;have b:bA X [(31,AA)]:=.cons FU .nil;refine bq b [(1000002,ab)] rfl ar ?_;refine AK.gf 2 1 68 2 (er.fn []) rfl rfl ?_;refine bZ b rfl ar ?_;refine AK.bY 4 (λi=>i<=p.2.length) (λi:Nat=>[(1,cI.sl ns),(4,.e (.one (.ptr 1 0))),(5,.e (.one (.ptr 2 0))),(12,er.sl p.2),(13,dI p.2.length),(14,dI i)])
  (λi=>XS p ((p.2.take i).filter λx=>ns.contains x.1)) (λi=>p.2.length-i) 0 rfl (by simp) rfl (by simp) rfl (by omega) ?_
 intro i hi;have k:=filter_le p.2 (λx=>ns.contains x.1) hi;by_cases h:i<p.2.length
 .have f:p.2.getD i er.bR=fU p i:=rfl;have d:(p.2.take (i+1)).filter (λx=>ns.contains x.1)=if ns.contains (fU p i).1=ab then(p.2.take i).filter (λx=>ns.contains x.1)++[fU p i]else(p.2.take i).filter (λx=>ns.contains x.1):=w6 h (0,[]);generalize(p.2.take i).filter (λx=>ns.contains x.1)=a at *;generalize fU p i=x at *;cases c:ns.contains x.1 with
  |true =>
   rw[bn c]at d;have g:=er.cr a x;refine bq b [(15,ab),(21,ab)] rfl ?_ (AK.aQ (i+1) rfl (by simp) ?_ h (by omega))
   .simp[-aj,-List.contains_eq_mem,f,h,c,cI.list_fn,cI.aO,bw,show i68.bytes=24 from rfl];omega
   .rw[d];simp only[au.cat,au,bL,f,cv,e9,aH,aE];and_intros<;>first|exact cp.same|exact g|rfl|omega
  |false =>
   rw[a9 (by rw[c];simp)]at d;refine bq b [(15,ab),(21,ae)] rfl ?_ (AK.aQ (i+1) rfl (by simp) ?_ h (by omega))
   .simp[-aj,-List.contains_eq_mem,f,h,c,cI.list_fn,cI.aO,bw];omega
   .rw[d];simp
 obtain rfl:i=p.2.length:=by omega
 rw[cO];refine aR b [(15,ae)] rfl (by simp) (AK.leaveD rfl rfl ?_);refine bZ b rfl ar ?_;refine AK.lH () [] rfl rfl rfl rfl rfl rfl rfl rfl ?_ rfl rfl rfl rfl (λj l=>absurd l (by simp));simp[cD]
abbrev Zh(w:c7)(a b:Bool):List bd :=
 match a,b with
 |false,_=>[sX w,.cells 32 Hq]
 |true,ae=>[sX w,.cells 32 Hq,.buf 43 2 w.1.1.length (cP.fn w.1.1),.buf 39 2 w.1.2.1.length (eG.fn w.1.2.1)]
 |true,ab=>[sX w,.cells 32 [.bp 2 (.sl w.1.1.length 2 0 w.1.1.length),.bp 3 (.sl w.1.2.1.length 2 0 w.1.2.1.length),p0 cH w.1.2.2,p0 cI (cI.list w.2.1.length (cI.fn w.2.1)),p0 cI (cI.list w.2.2.length (cI.fn w.2.2))],.buf 43 2 w.1.1.length (cP.fn w.1.1),.buf 39 2 w.1.2.1.length (eG.fn w.1.2.1)]
abbrev xCl(w:c7)(i:Nat):D :=
 [.e (.one (.ptr 0 0)),qg w.1,.e (.agg [.bp 2 (.sl w.1.1.length 2 0 w.1.1.length),.bp 3 (.sl w.1.2.1.length 2 0 w.1.2.1.length),p0 cH w.1.2.2]),.e (.one (.ptr 0 3)),cI.sl w.2.1,cI.sl (cI.list w.2.1.length (cI.fn w.2.1)),.e (.one (.ptr 0 4)),cI.sl w.2.2,cI.sl (cI.list w.2.2.length (cI.fn w.2.2)),
  .e (.agg [.bp 2 (.sl w.1.1.length 2 0 w.1.1.length),.bp 3 (.sl w.1.2.1.length 2 0 w.1.2.1.length),p0 cH w.1.2.2,p0 cI (cI.list w.2.1.length (cI.fn w.2.1)),p0 cI (cI.list w.2.2.length (cI.fn w.2.2))]),.any].getD i .any
def Er(w:c7)(b:iM w.1)(g:w.2.1.length<=4000000)(f:w.2.2.length<=4000000):Ev X 43 [LR w] [] (.e (.agg [.bp 0 (.sl w.1.1.length 2 0 w.1.1.length),p0 eG w.1.2.1,p0 cH w.1.2.2,p0 cI w.2.1,p0 cI w.2.2])) [.buf 43 2 w.1.1.length (cP.fn w.1.1)]:=by
 refine Ev.vK tok Tryz.func43 rfl rfl rfl λk=>?_
 have a:bA X [(28,Jx [qg w.1] [] (.e (.agg [.bp 0 (.sl w.1.1.length 2 0 w.1.1.length),.bp 1 (.sl w.1.2.1.length 2 0 w.1.2.1.length),.c (.sl ae 2 w.1.2.2.length (cH.fn w.1.2.2))])) [.buf 43 2 w.1.1.length (cP.fn w.1.1),.buf 39 2 w.1.2.1.length (eG.fn w.1.2.1)]),
   (75,kB (aL cI) (λl=>cI.sl l) λl=>[l.length<=4000000])]:=.cons (OT (oZ w.1 b.p b.p2 b.sn b.s2 b.h)) (.cons (.ox λl h=>vZ l h) .nil)
 refine bq a [(1000001,ab)] rfl ar ?_;refine AK.flags di (xCl w) (vJ (Zh w) 2 10) rfl rfl rfl rfl
  ⟨.Bp tok a,.Bp tok a,eE.sA rfl rfl (en (ds:=[]) tok a (σ':=aa _) rfl (by simp)),.Bp tok a,.Bp tok a,.R9 tok a (ho:=by exact⟨cI.aO _,by rw[cI.list_fn];exact g⟩),.Bp tok a,.Bp tok a,.R9 tok a (ho:=by exact⟨cI.aO _,by rw[cI.list_fn];exact f⟩),.Bp tok a,
   eE.sB rfl rfl (en (ds:=[]) tok a (σ':=aa _) rfl ar),ar⟩ ?_
 intro D d;show AK X _ _ _ _ _ (Zh w (D 2) (D 10));rw[d 2 (by decide),d 10 (by decide)];refine XH a [] 1 rfl ar ?_;refine AK.ru 3 rfl rfl rfl (by simp) (by simp) ?_;refine AK.norm [sX w,.cells 32 [.bp 2 (.sl w.1.1.length 2 0 w.1.1.length),p0 eG w.1.2.1,p0 cH w.1.2.2,p0 cI w.2.1,p0 cI w.2.2],.buf 43 2 w.1.1.length (cP.fn w.1.1),.dead] rfl ?_ ?_
 .simp[cI.list_fn,sk]
 refine AK.lH () [2] rfl rfl rfl rfl rfl rfl rfl rfl ?_ rfl rfl rfl rfl (λj i=>absurd i (by simp));simp
abbrev Ol(l:List ba):bd:=.buf 43 2 l.length (cP.fn l)
abbrev VG(n m:Nat):D:=.e (.one (.bp 0 (.sl n 2 0 m)))
def Lw(l:List ba)(m:Nat)(v:m<=l.length)(s:l.length<=4000000)(f:Nat)(cs:List C)(q:ba->Bool)(o:∀x,x∈l.take m->Ev X f [xa x,.e (.one (.c (.rp cs)))] [] (dB (q x)) []):
  Ev X 74 [VG l.length m,.e (.one (.c (.fn (.func f) [] [.rp cs])))] [Ol l] (dI (lV q (l.take m))) [Ol l]:=by
 refine Ev.bQ Tryz.func74 rfl λu=>?_;refine bx rfl ar ?_;have n:(l.take m).length=m:=by simp;omega
 have b:∀j,j<m->(l.take m).getD j (0,[])=l.getD j (0,[]):=λj g=>by simp[fR,g]
 refine AK.bY 1 (λi=>i<=m/\∀j,j<i->q ((l.take m).getD j (0,[]))=ae) (λi:Nat=>[(0,VG l.length m),(1,.e (.one (.c (.fn (.func f) [] [.rp cs])))),(7,dI m),(8,dI i)]) (λ_=>[Ol l]) (λi=>m-i) 0 rfl (by simp) rfl (by simp) rfl ⟨by omega,by omega⟩ ?_;rintro i ⟨hi,a⟩;by_cases h:i<m
 .have p:l.getD i (0,[])∈l.take m:=by rw[<-b i h];grind
  have r:l.getD ((0+(i:Int).toNat:Nat)) cP.bR=l.getD i (0,[]):=by simp;rfl
  refine aW [(9,ab)] rfl ?_ ?_
  .simp only[au];grind
  rw[r];refine AK.cQ (o _ p) [] rfl ?_;cases k:q (l.getD i (0,[]))with
  |true =>
   refine aW [(16,ab)] rfl (by simp) (AK.eX (cd.mk [0] rfl ?_ rfl rfl rfl lU));simp[rM (t:=l.take m) (d:=(0,[])) (by omega) (by rw[b i h];exact k) a]
  |false =>
   refine aW [(16,ae)] rfl ?_ (AK.aQ (i+1) rfl (by simp) (by simp) ⟨h,λj g=>?_⟩ (by omega))
   .simp[bw];omega
   .by_cases e:j=i
    .rw[e,b i h];exact k
    .exact a j (by omega)
 .refine aW [(9,ae)] rfl (by simp;omega) (AK.leaveD rfl rfl ?_);refine bx rfl ar (AK.dG [0] rfl ?_ rfl rfl rfl lU);simp[mZ (t:=l.take m) (d:=(0,[])) (λj g=>a j (by omega))]
def xI(l:List ba)(m i:Nat):List ba:=(l.take m).eraseIdx i++(0,[])::l.drop m
def Lx{l:List ba}{m:Nat}(a:m<=l.length)(hi:i<m):(xI l m i).length=l.length:=by unfold xI;rw[cv,yO (by simp;omega)];simp;omega
def Ly(l:List ba)(m i:Nat)(A:m<=l.length)(hi:i<m)(y:l.length<=4000000):
  Ev X 78 [VG l.length m,dI i,dI ((i:Int)+1)] [Ol l] (VG l.length (m-1)) [.buf 43 2 l.length (cP.fn (xI l m i))]:=by
 refine Ev.bQ Tryz.func78 rfl λz=>?_;refine bF [(16,ae),(1000006,ab)] rfl ?_ ?_
 .simp[cq];omega
 have o:cq m (aa (i:Int))-cq 0 af+(cq m af-cq 0 (aa ((i:Int)+1)))=m-1:=by simp[cq];omega
 rw[o];refine AK.region ?_;refine DC [] 4 rfl ar ?_;refine AK.law (bD.MT tok rfl rfl rfl rfl rfl rfl rfl rfl rfl (by omega) (by omega) (by omega)) rfl rfl ?_;refine AK.law (bD.C0 tok rfl rfl rfl rfl rfl rfl ?_) rfl rfl ?_
 .simp only[cq,bL];omega
 refine bF [(1000007,ab)] rfl ar ?_;refine AK.Sy 0 (cP.fn (xI l m i)) rfl (λ_ _=>rfl) (λM idx iC j h s=>?_) ?_
 .have p:cq m (aa (i:Int))-cq 0 af=i:=by simp[cq]
  have n:cq 0 (aa ((i:Int)+1))=i+1:=by simp only[cq];omega
  have w:cq m af=m:=rfl;simp only[bL];rw[p,n,w];have u:(xI l m i).getD idx (0,[])=if idx<i then l.getD idx (0,[])else if idx<m-1 then l.getD (idx+1) (0,[])else if idx<m then(0,[])else l.getD idx (0,[]):=by
   unfold xI;have e:((l.take m).eraseIdx i).length=m-1:=by rw[yO (by simp;omega)];simp;omega
   simp only[aj];by_cases f:idx<m-1
   .rw[jh (by omega),List.getElem?_eraseIdx];by_cases c:idx<i
    .rw[bn c,bn c,fR,bn (by omega)]
    .rw[a9 c,a9 c,bn f,fR,bn (by omega)]
   .rw[fx (by omega),e];by_cases k:idx=m-1
    .subst k;rw[a9 (by omega),a9 (by omega),bn (by omega)];simp
    .obtain⟨d,rfl⟩:∃d,idx=m+d:=⟨idx-m,by omega⟩
     rw[a9 (by omega),a9 (by omega),a9 (by omega),show m+d-(m-1)=d+1 by omega];simp[oy]
  have a:(cP.enc ((xI l m i).getD idx (0,[])))[j]?=aa h:=s;rw[u]at a;by_cases f:idx=m-1
  .subst f;rw[a9 (by omega),a9 (by omega),bn (by omega)]at a;have t:nC (0+(m-1)) (0+(m-1)+(m-(m-1))) i43.zero (AJ i (0+(i+1)) (m-(i+1)) (cP.fn l)) (m-1)=i43.zero:=bn (by omega);rw[t]
   match j,a with
   |0,a=>exact⟨_,rfl,λv r=>by cases a;exact r⟩
   |1,a=>exact⟨_,rfl,λv r=>by cases a;exact IN (x:=.sl ab 0 0 λ_=>[]) rfl ⟨rfl,rfl⟩ r⟩
  .refine⟨h,?_,λ_ r=>r⟩;rw[<-a];congr 1;unfold nC AJ;rw[a9 (by omega)];have b:∀q,cP.fn l q=cP.enc (l.getD q (0,[])):=λ_=>rfl;by_cases c:idx<i
   .rw[a9 (by omega),bn c,b]
   .rw[a9 c];by_cases g:idx<m-1
    .rw[bn (by omega),bn g,b,show 0+(i+1)+(idx-i)=idx+1 by omega]
    .rw[a9 (by omega),a9 g,a9 (by omega),b]
 refine c9 rfl ar (AK.dG [0] rfl ?_ rfl rfl rfl lU);simp;rfl
end
def xe(w:c7):Nat->c7
 |0=>w
 |j+1=>qJ (xe w j)
def AB{w:c7}:∀{j:Nat},j<=w.2.2.length->(xe w j).1.2=w.1.2/\(xe w j).2.1=w.2.1/\(xe w j).2.2=w.2.2.drop j/\(xe w j).1.1=(w.2.2.take j).foldl (λps no=>eT no w.2.1 ps) w.1.1
 |0,_=>⟨rfl,rfl,rfl,rfl⟩
 |j+1,h=>by
  obtain⟨c,a,b,d⟩:=AB (w:=w) (j:=j) (by omega);have f:w.2.2.drop j=w.2.2.getD j 0::w.2.2.drop (j+1):=by rw[r9 (by omega)];simp[bm (show j<w.2.2.length by omega)]
  have e:xe w (j+1)=((eT (w.2.2.getD j 0) w.2.1 (xe w j).1.1,(xe w j).1.2),(xe w j).2.1,w.2.2.drop (j+1)):=by rw[show xe w (j+1)=qJ (xe w j)from rfl];unfold qJ;rw[b,f,a]
  rw[e,bt (by omega) 0,uj,<-d];exact⟨c,a,rfl,rfl⟩
def mH.xe{k:Int}{w:c7}(h:mH k w):∀j,mH k (xe w j)
 |0=>h
 |j+1=>(mH.xe h j).step
def lb(ms:List Int)(ps:List ba):List ba:=(ps.map λp=>cD p ms).filter λp=>!p.2.isEmpty
def Hx{p:ba}{ms:List Int}:cD (cD p ms) ms=cD p ms:=by simp[cD,List.filter_filter]
def yN{ms:List Int}:∀(L:List Int)(ps:List ba),(∀p∈ps,p.2≠[])->L.foldl (λps no=>eT no ms ps) ps=(ps.map λp=>if p.1∈L then cD p ms else p).filter λp=>!p.2.isEmpty
 |[],ps,h=>by simp only[List.foldl_nil,nt,bM,List.map_id'];rw[qS.2 λp a=>by simpa using h p a]
 |no::L,ps,h=>by
  rw[iB,yN L _ λp a=>by obtain⟨_,_,_,d⟩:=wS a;exact d];clear h;induction ps with
  |nil=>rfl
  |cons p ps ih =>
   unfold eT at ih⊢;simp only[jl,nn]at ih⊢;by_cases a:p.1=no
   .have e:iZ no ms p=cD p ms:=bn a;have g:(cD p ms).1=p.1:=rfl;rw[e];split
    .simp only[jl,nn,g,Hx,ih,a,dK,true_or,b5];split<;>simp_all
    .simp_all
   .have e:iZ no ms p=p:=a9 a;rw[e];have b:(p.1∈no::L)↔p.1∈L:=by simp[a]
    split
    .simp only[jl,nn,ih,b]
    .simp only[ih,b];have c:p.2=[]:=by simp_all
     have:(cD p ms).2=[]:=by simp[cD,c]
     by_cases f:p.1∈L<;>simp[f,this,c]
def Hy{k:Int}{s:bk}(h:wN k s)(fl:List cC)(ms:List Int):(xe ((s.1,fl,s.2.2),ms,s.1.map (·.1)) s.1.length).1=(lb ms s.1,fl,s.2.2):=by obtain⟨c,_,_,b⟩:=AB (w:=((s.1,fl,s.2.2),ms,s.1.map (·.1))) (j:=s.1.length) (by simp);refine Prod.ext ?_ c;rw[b];simp only;rw[yR (by simp),yN _ _ λp a=>by have:=(h.pk p a).len.1;grind];unfold lb;congr 1;refine qR λp a=>bn (jS.2 ⟨p,a,rfl⟩)
def mJ(ms:List Int):∀ps:List ba,bC (lb ms ps)=(bC ps).filter λn=>ms.contains n
 |[]=>rfl
 |p::ps=>by
  have a:=mJ ms ps;unfold bC lb at *;rw[jl,nn,oA,List.filter_append,<-a];have e:(p.2.map (·.1)).filter (λn=>ms.contains n)=(cD p ms).2.map (·.1):=by simp[cD,List.filter_map];rfl
  rw[e];split
  .rw[oA]
  .have:(cD p ms).2=[]:=by simp_all
   rw[this];rfl
def yM{ms:List Int}{no:Int}:∀{ps:List ba}{i:Nat},(ps.Pairwise λp q=>p.1<q.1)->(∀p∈ps,p.2≠[])->i<ps.length->(ps.getD i (0,[])).1=no ->
  lV (λp:ba=>p.1==no) ps=i/\eT no ms ps=if(cD (ps.getD i (0,[])) ms).2.length=0 then ps.eraseIdx i else ps.set i (cD (ps.getD i (0,[])) ms)
 |p::ps,0,k,c,_,h=>by
  obtain⟨f,m⟩:=mo.1 k;simp only[List.getD_cons_zero]at h⊢;have e:ps.map (iZ no ms)=ps:=by rw[qR (g:=id) λq a=>by have:=f q a;exact a9 (by omega),List.map_id]
  refine⟨by simp[lV,List.findIdx?_cons,h],?_⟩;unfold eT;rw[jl,e,show iZ no ms p=cD p ms from bn h,nn,qS.2 λq a=>by simpa using c q (kE _ a)];split<;>split<;>simp_all
 |p::ps,i+1,k,c,hi,h=>by
  obtain⟨f,m⟩:=mo.1 k;simp only[List.getD_cons_succ,gb]at h hi⊢;obtain⟨k1,n⟩:=yM (ms:=ms) (i:=i) m (λq a=>c q (kE _ a)) (by omega) h;have o:ps.getD i (0,[])∈ps:=by grind
  have b:p.1≠no:=by have:=f _ o;omega
  have d:=c p iA;refine⟨?_,?_⟩
  .unfold lV at k1⊢;rw[List.findIdx?_cons];have:(p.1==no)=ae:=by simpa using b
   rw[this];cases l:ps.findIdx? λp=>p.1==no with
   |none=>rw[l]at k1;simp only at k1;omega
   |some j=>rw[l]at k1;simp only at k1;simp;omega
  .have e:eT no ms (p::ps)=p::eT no ms ps:=by unfold eT;rw[jl,show iZ no ms p=p from a9 b,nn,bn (by simpa using d)]
   rw[e,n];split<;>simp
def ml(ms:List Int)(l:List ba)(m i:Nat):List ba×Nat :=
 if(cD (l.getD i (0,[])) ms).2.length=0 then(xI l m i,m-1)else(l.set i (cD (l.getD i (0,[])) ms),m)
def Lz{ms:List Int}{no:Int}{l:List ba}{m:Nat}(c:m<=l.length)(hi:i<m)(d:(l.take m).Pairwise λp q=>p.1<q.1)(f:∀p∈l.take m,p.2≠[])(h:(l.getD i (0,[])).1=no):
  lV (λp:ba=>p.1==no) (l.take m)=i/\(ml ms l m i).1.length=l.length/\(ml ms l m i).2<=m/\(ml ms l m i).1.take (ml ms l m i).2=eT no ms (l.take m):=by
 have b:(l.take m).getD i (0,[])=l.getD i (0,[]):=by simp[fR,hi]
 obtain⟨k1,a⟩:=yM (ms:=ms) (no:=no) (ps:=l.take m) (i:=i) d f (by rw[List.length_take];omega) (b▸h);rw[b]at a;rw[a];unfold ml;split
 .refine⟨k1,Lx c hi,by omega,?_⟩;unfold xI;have e:((l.take m).eraseIdx i).length=m-1:=by rw[yO (by simp;omega)];simp;omega
  simp only;exact List.take_left' e
 .exact⟨k1,by simp,aZ _,by rw[List.take_set]⟩
section
variable {X:Cx ag}
def LA(p:ba)(n:Int):Ev X 76 [xa p,.e (.one (.c (.rp [.int .i64 n])))] [] (dB (p.1==n)) []:=by refine Ev.bQ Tryz.func76 rfl λa=>?_;exact bx rfl ar (AK.bo rfl)
abbrev Sg(n m:Nat)(sn:List cC)(a:List (Int×Int))(ms lf:List Int)(b:Nat):bd:=.cells 32 [.bp b (.sl n 2 0 m),p0 eG sn,p0 cH a,p0 cI ms,p0 cI lf]
abbrev Hw(l:List ba)(i:Nat):ba:=l.getD (0+(i:Int).toNat) cP.bR
abbrev xPr(l:List ba)(m i:Nat)(ms:List Int)(k:Nat):D :=
 [.e (.one (.ptr 3 0)),.e (.one (.ptr 3 0)),.e (.one (.ptr 3 0)),.e (.one (.ptr 3 0)),.e (.one (.bp 2 (.sl l.length 2 0 m))),dI i,.e (.one (.bp 2 (.el l.length 2 (0+(i:Int).toNat) 0))),xa (Hw l i),
  .e (.one (.ptr 3 0)),.e (.one (.ptr 3 0)),.e (.one (.ptr 3 3)),cI.sl ms,xa (cD (Hw l i) ms),.e (.one (.ptr 6 0)),.any].getD k .any
abbrev Si:bd:=.cells 27 [g6,g6,g6]
abbrev Zi(l:List ba)(i:Nat)(ms:List Int):bd:=.cells 43 [.c (.int .i64 (Hw l i).1),.c (sP (cD (Hw l i) ms))]
abbrev Zj(w:c7)(H:ai->(Nat->Option Obj)->Prop)(l:List ba)(m i:Nat)(sn:List cC)(d:List (Int×Int))(ms lf:List Int)(a b:Bool):List bd :=
 match a,b with
 |false,_=>[sX w,Si,Ol l,Sg l.length m sn d ms lf 2,.cf H,.dead]
 |true,ae=>[sX w,Si,Ol l,Sg l.length m sn d ms lf 2,.cf H,.dead,.cells 43 [.c (.int .i64 0),g6]]
 |true,ab=>[sX w,Si,Ol l,Sg l.length m sn d ms lf 2,.cf H,.dead,Zi l i ms]
set_option maxRecDepth 20000 in
def Et(w:c7)(H:ai->(Nat->Option Obj)->Prop)(no:Int)(l:List ba)(m i:Nat)(sn:List cC)(f:List (Int×Int))(ms lf:List Int)(k:m<=l.length)(j:l.length<=4000000)(hi:i<m)(o:lV (λp:ba=>p.1==no) (l.take m)=i)(b:∀p∈l,p.2.length<=4000000):
  dL (ι:={es:Nat->List C // cp l.length es (cP.fn (ml ms l m i).1)}) X 44 [.e (.one (.ptr 3 0)),dI no] [sX w,Si,Ol l,Sg l.length m sn f ms lf 2,.cf H] (λ_=>.fw []) (λes=>[sX w,Si,.buf 43 2 l.length es.1,Sg l.length (ml ms l m i).2 sn f ms lf 2,.cf H,.dead,Zi l i ms]):=by
 refine dL.De Tryz.func44 rfl rfl rfl (AK.of_code ?_);refine bF [(1000001,ab)] rfl ar ?_;refine AK.freeze 3 5 rfl rfl rfl ?_;refine c9 rfl ar ?_;refine AK.cQ (Lw l m k j 76 [.int .i64 no] (λp=>p.1==no) λp _=>LA p no) [2] rfl ?_;rw[o];have d:Hw l i=l.getD i (0,[]):=by simp;rfl
 have c:Hw l i∈l:=by rw[d];grind
 have a:bA X [(77,zU [xa (Hw l i),cI.sl ms] (xa (cD (Hw l i) ms)))]:=.cons (DI (Lv (Hw l i) ms (b _ c))) .nil;have ho:0<=(i:Int)/\(i:Int)<((m:Nat):Int):=by omega
 have h:l.length=l.length/\0+(i:Int).toNat<l.length:=⟨rfl,by omega⟩
 refine bF [(1000002,ab)] rfl ar ?_;refine AK.flags di (xPr l m i ms) (vJ (Zj w H l m i sn f ms lf) 13 14) rfl rfl rfl rfl
  ⟨.Bp tok a,.Bp tok a,.Bp tok a,.Bp tok a,.Bp tok a,.Bp tok a,.R9 tok a (ho:=by exact ho),.R9 tok a (ho:=by exact h),.Bp tok a,.Bp tok a,.Bp tok a,.Bp tok a,.R9 tok a (ho:=by exact rfl),
   eE.sA rfl rfl (en (ds:=[]) tok a (σ':=aa _) rfl ar),eE.sB rfl rfl (en (ds:=[]) tok a (σ':=aa _) rfl ar),ar⟩ ?_
 intro D n;show AK X _ _ _ _ _ (Zj w H l m i sn f ms lf (D 13) (D 14));rw[n 13 (by decide),n 14 (by decide)];unfold ml;by_cases g:(cD (Hw l i) ms).2.length=0
 .rw[bn (by rw[<-d];exact g)];refine bF [(29,ab)] rfl ?_ ?_
  .simp only[au,bw,g];exact⟨by omega,rfl⟩
  refine AK.cQ (Ly l m i k hi j) [2] rfl ?_;refine c9 rfl ar ?_;exact⟨⟨_,cp.same⟩,.inr rfl,rfl,rfl,_,_,_,rfl,rfl,rfl,ar⟩
 .rw[a9 (by rw[<-d];exact g)];refine bF [(29,ae)] rfl ?_ ?_
  .simp only[au];exact⟨ar,by omega,by omega,by omega,by simpa using g⟩
  refine⟨⟨n8 (0+(i:Int).toNat) [.int .i64 (Hw l i).1,sP (cD (Hw l i) ms)] (cP.fn l),?_⟩,.inr rfl,rfl,rfl,_,_,_,rfl,rfl,rfl,ar⟩;have:=cP.DT l i (cD (Hw l i) ms) l.length (aZ _);rw[d]at *;rw[show 0+(i:Int).toNat=i by omega];exact this
end
def LB(k:Int)(w:c7):bk×Bool:=if mf k w=ab then((xe w w.2.2.length).1,ab)else(([],[],[]),ae)
structure Om(w:c7)(n0 j:Nat)(l:List ba)(m:Nat):Prop where
 hj:j<=w.2.2.length
 len:l.length=n0
 hm:m<=n0
 now:l.take m=(xe w j).1.1
 sz:∀p∈l,p.2.length<=4000000
abbrev Zk(w:c7)(l:List ba)(m:Nat)(H:ai->(Nat->Option Obj)->Prop):List bd:=[sX w,Si,Ol l,Sg l.length m w.1.2.1 w.1.2.2 w.2.1 w.2.2 2,.cf H]
def Om.next{k:Int}{w:c7}{n:Nat}{l:List ba}{m:Nat}(u:mH k w)(h:Om w n j l m)(b:j<w.2.2.length):
  ∃i,i<m/\lV (λp:ba=>p.1==w.2.2.getD j 0) (l.take m)=i/\Om w n (j+1) (ml w.2.1 l m i).1 (ml w.2.1 l m i).2:=by
 have d:=u.xe j;obtain⟨h1,h2,o,x⟩:=AB (w:=w) (j:=j) h.hj;have q:w.2.2.drop j=w.2.2.getD j 0::w.2.2.drop (j+1):=by rw[r9 b];simp[bm b]
 obtain⟨p,a,e⟩:=d.lp (w.2.2.getD j 0) (by rw[o,q];exact iA);rw[<-h.now]at a;obtain⟨i,hi,f⟩:=dN a;rw[List.length_take]at hi;have c:i<m:=by omega
 have v:(l.getD i (0,[])).1=w.2.2.getD j 0:=by rw[<-e,<-f];simp[bm (show i<l.length by omega)]
 have g:∀p∈l.take m,p.2≠[]:=λp a=>by rw[h.now]at a;have:=(d.pk p a).len.1;grind
 obtain⟨k1,r,s,t⟩:=Lz (ms:=w.2.1) (by rw[h.len];exact h.hm) c (by rw[h.now];exact d.pa) g v;refine⟨i,c,k1,b,by rw[r,h.len],dO s h.hm,?_,λp a=>?_⟩
 .rw[t,h.now];rw[show xe w (j+1)=qJ (xe w j)from rfl];unfold qJ;rw[o,q,h2]
 .unfold ml at a;split at a
  .unfold xI at a;simp only[fz,dK]at a;rcases a with a|a|a
   .exact h.sz p (ji (List.mem_of_mem_eraseIdx a))
   .rw[a];simp
   .exact h.sz p (ug a)
  .rcases List.mem_or_eq_of_mem_set a with a|a
   .exact h.sz p a
   .rw[a];have hm:l.getD i (0,[])∈l:=by grind
    exact dO (kD _ _) (h.sz _ hm)
def r6(k:Int)(w:c7)(c:Vx w)(r:iM w.1):Ev (Cx.beside ag) 17 [dI k,LR w] [] (YX (LB k w).1 (LB k w).2) []:=by
 refine Ev.n7 Tryz.func17 rfl rfl rfl λA=>?_;have x:bA (Cx.beside ag) [(16,yy)]:=.cons Hc .nil;have B:=r.p;have g:=c.Xz;unfold LB;cases n:mf k w with
 |false =>
  refine bq x [(14,ab)] rfl ?_ ?_
  .simp only[au,cP.list_fn,cP.aO,eG.list_fn,eG.aO,cH.list_fn,cH.aO,cI.list_fn,cI.aO,n,c,aH,aE,kR]
  refine AK.freeze 4 1 rfl rfl rfl ?_;refine AK.zh tok [] rfl ?_ rfl rfl rfl tU;simp
 |true =>
 rw[bn rfl];have z:=tF.1 n;refine bq x [(14,ae)] rfl ?_ ?_
 .simp only[au,cP.list_fn,cP.aO,eG.list_fn,eG.aO,cH.list_fn,cH.aO,cI.list_fn,cI.aO,n,c,aH,aE,kG]
 refine AK.cQ (Er w r c.mrk c.Xz) [] rfl ?_;refine c9 rfl ar ?_;refine AK.Mg rfl Tryz.underlying79 (ff Tryz.type3) rfl rfl g rfl rfl λd=>?_;refine c9 rfl ar ?_;refine AK.bY 5 (λi=>i<=w.2.2.length) (λi:Nat=>[(4,.e (.one (.ptr 1 0))),(6,.e (.one (.ptr 3 0))),(7,Pa d),(23,cI.sl w.2.2),(24,dI w.2.2.length),(25,dI i)])
  (λi=>Zk w w.1.1 w.1.1.length (gR d w.2.2.length (w.2.2.take i) ae)) (λi=>w.2.2.length-i) 0 rfl (by simp) rfl (by simp) rfl (by omega) ?_
 .intro i hi;by_cases h:i<w.2.2.length
  .have s:w.2.2.getD (i:Int).toNat cI.bR=w.2.2.getD i 0:=rfl;have t:=bt h 0;refine bF [(26,ab)] rfl (by simp;omega) ?_;rw[s];refine AK.zj (mO.send (l:=4) (q:=w.2.2.take i) (cap:=w.2.2.length) rfl rfl rfl rfl (by rw[List.length_take];omega)) rfl rfl ?_;refine c9 rfl ?_ (AK.aQ (i+1) rfl (by simp) ?_ h (by omega))
   .simp[bw];omega
   .rw[t];simp
  obtain rfl:i=w.2.2.length:=by omega
  rw[cO];refine bF [(26,ae)] rfl (by simp) (AK.leaveD rfl rfl ?_);refine c9 rfl ar ?_;refine AK.zj (mO.close (l:=4) rfl rfl rfl) rfl rfl ?_;refine c9 rfl ar ?_;refine AK.bY 5 (λq:Nat×List ba×Nat=>Om w w.1.1.length q.1 q.2.1 q.2.2) (λ_=>[(4,.e (.one (.ptr 1 0))),(6,.e (.one (.ptr 3 0))),(33,Pa d)])
   (λq=>Zk w q.2.1 q.2.2 (gR d w.2.2.length (w.2.2.drop q.1) ab)) (λq=>w.2.2.length-q.1) (0,w.1.1,w.1.1.length) rfl (by simp) rfl (by simp) rfl ⟨iN _,rfl,aZ _,by simp[xe],r.p2⟩ ?_
  rintro⟨j,l,m⟩ a;simp only at a;have b:=a.len;by_cases h:j<w.2.2.length
  .obtain⟨i,hi,y,v⟩:=a.next z h;have s:w.2.2.drop j=w.2.2.getD j 0::w.2.2.drop (j+1):=by rw[r9 h];simp[bm h]
   rw[s];refine c9 rfl ar ?_;refine AK.zj (mO.recv (l:=4) rfl Tryz.underlying79 (λw=>Tryz.zeroValue3 w) rfl rfl) rfl rfl ?_;refine bF [(35,ab)] rfl rfl ?_;refine AK.LS (Et w _ (w.2.2.getD j 0) l m i w.1.2.1 w.1.2.2 w.2.1 w.2.2 (by rw[b];exact a.hm) (by omega) hi y a.sz) rfl rfl rfl rfl ?_ rfl ?_
   .simp
   rintro⟨es,o⟩;refine c9 rfl ar (AK.aQ (j+1,(ml w.2.1 l m i).1,(ml w.2.1 l m i).2) rfl (by simp) ?_ v (by simp only;omega));have u:(ml w.2.1 l m i).1.length=l.length:=by rw[v.len,b]
   simp only[au.cat,au,u,aH,aE];and_intros<;>first|exact cp.same|exact o|rfl
  obtain rfl:j=w.2.2.length:=by have:=a.hj;omega
  rw[qY];refine c9 rfl ar ?_;refine AK.zj (mO.H0 (l:=4) rfl Tryz.underlying79 (λw=>Tryz.zeroValue3 w) rfl rfl) rfl rfl ?_;refine bF [(35,ae)] rfl rfl (AK.leaveD rfl rfl ?_);refine AK.ru 2 rfl rfl rfl (by simp) (by simp;rw[b];exact a.hm) ?_;refine c9 rfl ar ?_;refine AK.freeze 4 1 rfl rfl rfl ?_;refine AK.zh tok [] rfl ?_ rfl rfl rfl tU;have e:(xe w w.2.2.length).1=(l.take m,w.1.2):=Prod.ext a.now.symm (AB (aZ _)).1;have f:m=(l.take m).length:=by have:=a.hm;simp;omega
  rw[e];simp only[au.cat,au,aH,aE];and_intros<;>first|exact cp.same|exact f|rfl|(intro i hi;simp only[sk,jY.fn,xb,aj,fR,hi,b5])
section
variable {X:Cx ag}[X.ic]
abbrev xE:bd:=.cf (iL 43 2 (.nil af) 0 [])
abbrev Lg(v:ai)(s:bk):bd:=.cells 27 [.c (.val v),.c (No s.2.1),.c (Np s.2.2)]
abbrev RP(v:ai)(s:bk):D:=.e (.agg [.c (.val v),.c (No s.2.1),.c (Np s.2.2)])
abbrev Lh:bd:=.cells 27 [.any,.any,.any]
abbrev AG(v:ai)(s:bk):bd:=.cf (PM (RO v s.1))
def Y9(m:Nat)(b:Nat->Int)(k:Int)(s s':bk)(e:Option ai)(a c d:Bool):List bd :=
 match e with
 |none=>match a,c with
  |false,ae=>[ku m b k,iY,qN s,xE]
  |true,ae=>[ku m b (k+1),iY,qN s,xE]
  |false,ab=>[ku m b k,iY,qN s,xE,iY]
  |true,ab=>[ku m b (k+1),iY,qN s,xE,iY]
 |some v=>match a,c,d with
  |true,ae,_=>[ku m b (k+1),iY,qN s,AG v s']
  |true,ab,ae=>[ku m b (k+1),iY,qN s,AG v s',iY]
  |true,ab,ab=>[ku m b (k+1),iY,qN s,AG v s',Lg v s']
  |false,ae,_=>[ku m b k,iY,qN s,AG v s']
  |false,ab,_=>[ku m b k,iY,qN s,AG v s',iY]
def x9P(u:Int)(s s':bk)(t:List bz)(a:Option ai)(i:Nat):D :=
 [qg s,.e (.one (.ptr 0 0)),dI u,dI (1+u),cF.sl t,
  (match a with|none=>.any|some v=>.fw [.agg [.c (.val v),.c (No s'.2.1),.c (Np s'.2.2)],.one (.c (.bool ab))]),
  (match a with|none=>.any|some v=>.fw [.agg [.c (.val v),.c (No s'.2.1),.c (Np s'.2.2)],.one (.c (.bool ab))]),
  (match a with|none=>.any|some v=>RP v s'),dB ab,.e (.one (.ptr 4 0)),.any,dB ab].getD i .any
def Za(m:Nat)(b:Nat->Int)(k:Int)(v:ai)(s:bk)(a c d:Bool):List bd :=
 match a,c,d with
 |false,ae,_=>[ku m b k,iY,Lg v s,AG v s]
 |true,ae,_=>[ku m b (k+1),iY,Lg v s,AG v s]
 |false,ab,ae=>[ku m b k,iY,Lg v s,AG v s,iY]
 |true,ab,ae=>[ku m b (k+1),iY,Lg v s,AG v s,iY]
 |false,ab,ab=>[ku m b k,iY,Lg v s,AG v s,Lh]
 |true,ab,ab=>[ku m b (k+1),iY,Lg v s,AG v s,Lh]
abbrev Lj:D:=.fw [.agg [.any,.any,.any],.one (.c (.bool ae))]
def x9F(u:Int)(v:ai)(s:bk)(t:List bz)(i:Nat):D:=[RP v s,.e (.one (.ptr 0 0)),dI u,dI (1+u),cF.sl t,Lj,Lj,.e (.agg [.any,.any,.any]),dB ae,.e (.one (.ptr 4 0)),.any,dB ae].getD i .any
abbrev StJ(k:Nat):={q:bk×ai×Nat // D7 q.1/\k<=q.2.2/\q.2.2<=k+1000}
def D7.ne{s:bk}(h:D7 s):∀p∈s.1,0<p.2.length:=λp a=>(h.p p a).len.1
def UQ:∀j,j<1->([0,3]:List Nat)[j]?=aa j:=λj a=>by grind
def El(s:bk)(by_:Int)(t:List bz)(a:D7 s)(c:rO t)(b:tA 7 s t=ab):dL (ι:=Nat->ai) X 85 [dI 7,qg s,dI by_,cF.sl t] [] (λ_=>Lj) (λ_=>[]) :=
 (w5 (X:=X) 7 s by_ t (by decide) a.size a.num c a.eP a.ne b).le (λ_=>rfl) (λ_=>by simp)
set_option maxRecDepth 20000 in
def Cu(m:Nat)(b:Nat->Int)(z:Bytes b)(k:Nat)(hk:k<=40000)(C:m<=1048576):
  dL (ι:=StJ k) X 53 [.e (.one (.ptr 0 0))] [ku m b k] (λq=>RP q.1.2.1 q.1.1) (λq=>[ku m b q.1.2.2,AG q.1.2.1 q.1.1]):=by
 refine dL.n7 tok Tryz.func53 rfl rfl rfl λhf=>?_;refine aW [(1000002,ab)] rfl ar ?_;refine AK.spare 43 2 ?_;refine AK.Tl 3 2 0 2 (cP.fn []) (by decide) rfl rfl rfl λv0=>?_;refine bx rfl ar ?_;refine AK.cP (Nv m b z k (by omega) C) [0] rfl (λ_=>rfl) ?_;rintro⟨⟨t0,k1⟩,P,T,L⟩;simp only at P T L;refine bx rfl ar ?_;refine AK.cP (gA m b z k1 5 (by omega) C (by omega)) [0] rfl (λ_=>rfl) ?_;rintro⟨u,u0,u1⟩;refine bx rfl ar ?_;refine AK.bY 4 (λq:bk×ai×List bz×Nat×Nat=>D7 q.1/\dq q.2.2.1=ab/\q.2.2.2.1<=4/\k<=q.2.2.2.2/\q.2.2.2.2+100*q.2.2.2.1<=k+900) (λq=>f92 q.2.2.1 q.2.2.2.1) (λq=>[ku m b q.2.2.2.2,iY,Lg q.2.1 q.1,AG q.2.1 q.1]) (λq=>q.2.2.2.1) (([],[],[]),v0,t0,u.toNat,k1+1) rfl ?_ rfl ?_ rfl ⟨D7.nil,P,by grind,by grind,by grind⟩ ?_
 .simp only[au.cat,au,aH,aE];and_intros<;>first|exactλ_ _=>rfl|omega
 .simp;rfl
 rintro⟨s,v,t,n,l⟩ ⟨A,Q,U,N,J⟩;simp only at A Q U N J;by_cases hn:0<n
 .have hv:=tG m b l 2 (by omega);have y:au [(l:Int)=(l:Int).toNat,GU b=GU (Rs (GU b)),Bytes (Rs (GU b)),(l:Int)<=4000000,m<=1048576,(1:Int)<=2,(2:Int)<=4000000]:=⟨rfl,rfl,z,by omega,C,by omega,(by decide:(2:Int)<=4000000)⟩
  have B:au [bw .i64 (1+lP m b l 2)]:=by simp only[au,bw];omega
  have g:bA X [(54,XJ)]:=.cons t54 .nil;refine bF [(19,ab),(1000006,ab)] rfl (by simp only[au,bl];omega) ?_;apply AK.Tn (ι:={q:bk×ai // D7 q.1}) (λ_=>f92 t n) (λq=>[ku m b (l+1:Nat),iY,Lg q.1.2 q.1.1,AG q.1.2 q.1.1,Lh])
  .intro out;cases H:tA 7 s t with
   |true =>
    have F:=El (X:=X) s (1+lP m b l 2) t A (mg Q) H;refine AK.flags di (x9F (lP m b l 2) v s t) (vk (Za m b l v s) 2 9 10) rfl rfl rfl rfl
     ⟨.P0 tok g,
     .P0 tok g,
     eE.e1 rfl rfl rfl rfl (λc d=>by cases c<;>cases d<;>exact en (ds:=[]) tok g (σ':=aa _) rfl y),
     .Ye tok g B,
     .P0 tok g,
     eE.q3 rfl rfl rfl (λa c d=>by cases a<;>cases c<;>cases d<;>exactλs a f hh b kk cs S i rest z hi hK=>oq.pO F rfl rfl rfl (ju.agg 1 0 3 rfl rfl (PM.EF rfl λ_ h=>h)) rfl (by simp) rfl (λ_=>rfl) (λ_=>rfl) s a f hh b kk cs S i rest z hi λ_=>hK),
     .P0 tok g,
     .P0 tok g,
     .P0 tok g,
     eE.e2 rfl rfl rfl rfl rfl (λa=>by cases a<;>exact en (ds:=[]) tok g (σ':=aa _) rfl ar),
     eE.e3 rfl rfl rfl rfl rfl (λa=>by cases a<;>exact en (ds:=[]) tok g (σ':=aa _) rfl ar),
     .P0 tok g,ar⟩ ?_
    intro D o;show AK X _ _ _ _ _ (Za m b l v s (D 2) (D 9) (D 10));rw[o 2 (by decide),o 9 (by decide),o 10 (by decide)];refine bF [(1000009,ab)] rfl ar ?_;exact out ⟨(s,v),A⟩ _ _ rfl (by simp)
   |false =>
    have I:=A.save (by_:=1+lP m b l 2) Q (by omega) H;have F:=Ek (X:=X) 7 s (1+lP m b l 2) t (by decide) A.size A.num (mg Q) A.eP A.ne H;generalize gV 7 s (1+lP m b l 2) t=s' at *;refine AK.sM 3 2 0 (E:=43) (k:=2) (cl:=QS s.1) (by decide) rfl rfl rfl (λ_ h=>h) ?_;refine AK.Iu di (x9P (lP m b l 2) s s' t) (SO (Y9 m b l s s') 2 9 10) (vm ai 5) af rfl rfl rfl rfl rfl
     ⟨.qe tok g,
     .qe tok g,
     eR.pre rfl rfl rfl rfl rfl (λc=>by cases c<;>exact en (ds:=[]) tok g (σ':=aa _) rfl y),
     .qo tok g B,
     .qe tok g,
     eR.W0 rfl rfl rfl rfl rfl (λj q=>by
      match q with
      |0=>exact .inr (.inr rfl)
      |1=>exact .inr (.inr rfl)
      |2=>exact .inr (.inr rfl)
      |3=>exact .inr (.inr rfl)
      |4=>exact .inr (.inr rfl)
      |5=>grind
      |6=>exact .inr (.inl rfl)
      |7=>exact .inr (.inl rfl)
      |8=>exact .inr (.inr rfl)
      |9=>exact .inr (.inr rfl)
      |10=>exact .inr (.inr rfl)
      |11=>exact .inr (.inr rfl)
      |q+12=>exact .inr (.inr rfl)) (λc=>by cases c<;>exact oq.kW F [3] rfl rfl rfl rfl (by simp) rfl rfl rfl (λ_=>rfl) rfl (λ_=>rfl)),
     .qs tok g,
     .qs tok g,
     .qs tok g,
     eR.Wn rfl rfl rfl rfl (λR a=>by cases R<;>cases a<;>exact en (ds:=[]) tok g (σ':=aa _) rfl ar),
     eR.last rfl rfl rfl rfl rfl rfl (λv'=>en (ds:=[]) tok g (σ':=aa _) rfl ar),
     .qs tok g,ar⟩ ?_
    intro R D V o;have V:R.isSome=ab:=V.trans (o 5 (by decide));rcases R with _|v'
    .cases V
    show AK X _ _ _ _ _ (Y9 m b l s s' (aa v') (D 2) (D 9) (D 10));rw[o 2 (by decide),o 9 (by decide),o 10 (by decide)];refine bF [(1000009,ab)] rfl ar ?_;refine AK.IU (φ':=f92 t n) (σ':=[ku m b (l+1:Nat),iY,Lg v' s',AG v' s',Lh]) ?_ rfl ?_ rfl ?_
    .exact out ⟨(s',v'),I⟩ _ _ rfl (by simp)
    .simp
    .simp
  rintro⟨⟨s',v'⟩,I⟩;refine c9 rfl ar ?_;refine AK.cP (uL m b z (l+1) (by omega) C) [0] rfl (λ_=>rfl) ?_;rintro⟨p,hp⟩;refine c9 rfl ar ?_;refine AK.cP (FK m b z (l+1+1+1) (by omega) C) [0] rfl (λ_=>rfl) ?_;rintro⟨⟨x,M⟩,hx,Y,K⟩;simp only at hx Y K;refine c9 rfl ar ?_;refine AK.cQ (wV t p x) [] rfl ?_;have Z:=Ec (t:=t) (p:=p) (x:=x);obtain⟨G,r⟩:∃G,G=if(ee t p x).2=ab then(ee t p x).1 else t:=⟨_,rfl⟩
  have W:dq G=ab:=by grind
  apply AK.join (f92 G n) [ku m b M,iY,Lg v' s',AG v' s',Lh]
  .intro out;cases O:(ee t p x).2 with
   |true =>
    rw[O,bn rfl]at r;rw[<-r];refine bF [(1000012,ab)] rfl ar ?_;exact out _ _ rfl (by simp)
   |false =>
    rw[O,a9 (by simp)]at r;rw[r]at out;refine bF [(1000012,ab)] rfl ar ?_;exact out _ _ rfl (by simp)
  clear r;refine c9 rfl ar ?_;refine AK.cP (gA m b z M 3 (by omega) C (by omega)) [0] rfl (λ_=>rfl) ?_;rintro⟨w,w0,w1⟩;by_cases hw:w=0
  .refine bF [(46,ab)] rfl (by simp[hw]) ?_;refine AK.cP (uL m b z (M+1) (by omega) C) [0] rfl (λ_=>rfl) ?_;rintro⟨p2,hp2⟩;have Tb:=nR W;refine c9 rfl ar ?_;refine AK.cQ (FL G p2 (by omega)) [] rfl ?_;refine c9 rfl ?_ (AK.aQ (s',v',lO G p2,n-1,M+1+1+1) rfl ?_ ?_ ?_ ?_)
   .simp only[au,bw];omega
   .simp only[au.cat,au,aH,aE];and_intros<;>first|exactλ_ _=>rfl|omega
   .simp
   .grind [Kx]
   grind
  .refine bF [(46,ae)] rfl (by simp[hw,bw];omega) (AK.aQ (s',v',G,n-1,M+1) rfl ?_ ?_ ?_ ?_)
   .simp only[au.cat,au,aH,aE];and_intros<;>first|exactλ_ _=>rfl|omega
   .simp
   .grind
   grind
 .refine bF [(19,ae)] rfl (by simp only[au,b7];omega) (AK.leaveD rfl rfl ?_);refine c9 rfl ar ?_;refine AK.lH ⟨(s,v,l),A,N,by grind⟩ [0,3] rfl rfl rfl rfl rfl rfl rfl rfl ?_ rfl rfl rfl rfl UQ;simp
end
end R1
def Lk{α:Type}(d:α){P:Nat->α->Prop}:∀n:Nat,(∀i,i<n->∃x,P i x)->∃l:List α,l.length=n/\∀i,i<n->P i (l.getD i d)
 |0,_=>⟨[],rfl,λi hi=>absurd hi (gw _)⟩
 |n+1,h=>by obtain⟨l,c,a⟩:=Lk d n λi hi=>h i (by omega);obtain⟨x,b⟩:=h n (by omega);refine⟨l++[x],by grind,λi hi=>?_⟩;grind
inductive Fit (M:Mem) (b o:Nat) (u:ai) (x:Int):Prop
 |int (n:Int) (h:M b o=aa (.int .i64 n)) (hu:∀M',Rd M' u (.int .i64 x))
 |str (s:ByteArray) (h:M b o=aa (.string s)) (l:List UInt8) (hu:∀M',Rd M' u (.str l))
section
variable {o g m:Nat}{u:ai}{x:Int}
def Fit.fi(h:Fit M b o u x){n:Int}(c:M g m=aa v)(d:Rd M v (.int .i64 n)):∃a v',M.up b o u g m=aa v'/\(∀M',Rd M' v' (.int .i64 a))/\(a=n∨a=x):=by
 unfold Mem.up;by_cases e:g=b/\m=o
 .obtain⟨rfl,rfl⟩:=e;rw[bn ⟨rfl,rfl⟩];cases h with
  |int _ _ f=>exact⟨x,u,rfl,f,.inr rfl⟩
  |str s h=>rw[h]at c;cases c;cases d
 .rw[a9 e,c];cases d with
  |int h=>exact⟨n,_,rfl,λ_=>.int h,.inl rfl⟩
def Fit.fs(h:Fit M b o u x){l:List UInt8}(a:M g m=aa v)(c:Rd M v (.str l)):∃l' v',M.up b o u g m=aa v'/\∀M',Rd M' v' (.str l'):=by
 unfold Mem.up;by_cases e:g=b/\m=o
 .obtain⟨rfl,rfl⟩:=e;rw[bn ⟨rfl,rfl⟩];cases h with
  |int n h=>rw[h]at a;cases a;cases c
  |str _ _ l' hu=>exact⟨l',u,rfl,hu⟩
 .rw[a9 e,a];cases c with
  |str h1 h2=>exact⟨l,_,rfl,λ_=>.str h1 h2⟩
def Fit.fl(h:Fit M b o u x){t:Bool}(a:M g m=aa v)(c:Rd M v (.sl t k n es)):M.up b o u g m=aa v:=by
 unfold Mem.up;by_cases e:g=b/\m=o
 .obtain⟨rfl,rfl⟩:=e;cases h with
  |int n h=>rw[h]at a;cases a;cases c
  |str s h=>rw[h]at a;cases a;cases c
 grind
end
namespace R1
def two{P:Nat->α->Prop}{x y:α}(b:P 0 x)(a:P 1 y):∀j c,[x,y][j]?=aa c->P j c
 |0,_,h=>by grind
 |1,_,h=>by grind
def Og{o:Nat}{u:ai}{x:Int}(h:Fit M b o u x){e:List cn}(r:Rd M v (.sl ae 2 e.length (er.fn e))):∃d:List cn,d.length=e.length/\Rd (M.up b o u) v (.sl ae 2 d.length (er.fn d)):=by
 obtain⟨a,cap,f,k,rfl,t,A,q,J,p⟩:=r.Gq;obtain⟨l,n,s⟩:=Lk (0,[]) (P:=λi (y:cn)=>∀(j:Nat) (c:C),[C.int .i64 y.1,.str y.2][j]?=aa c->∃w,M.up b o u f (k+i*2+j)=aa w/\Rd (M.up b o u) w c) e.length λi hi=>by obtain⟨K,D,r0⟩:=p i hi 0 _ rfl;obtain⟨w1,F,B⟩:=p i hi 1 _ rfl;obtain⟨E,v0,z,G,_⟩:=h.fi D r0;obtain⟨l',v1,H,I⟩:=h.fs F B;exact⟨(E,l'),two (P:=λj c=>∃w,M.up b o u f (k+i*2+j)=aa w/\Rd (M.up b o u) w c) ⟨v0,z,G _⟩ ⟨v1,H,I _⟩⟩
 exact⟨l,n,by rw[n];exact .Tm t A q (λ_ _=>rfl) s⟩
structure Vy(x:Int)(ps Vz:List ba):Prop where
 len:Vz.length=ps.length
 at':∀i,i<ps.length->(Vz.getD i (0,[])).2.length=(ps.getD i (0,[])).2.length/\((Vz.getD i (0,[])).1=(ps.getD i (0,[])).1∨(Vz.getD i (0,[])).1=x)
def Ll{o:Nat}{u:ai}{x:Int}(h:Fit M b o u x){ps:List ba}(t:RO v ps M):∃e,Vy x ps e/\RO v e (M.up b o u):=by
 obtain⟨a,cap,f,n,rfl,z,D,s,L,r⟩:=Rd.Gq t;obtain⟨l,q,k⟩:=Lk (0,[]) (P:=λi (y:ba)=>(y.2.length=(ps.getD i (0,[])).2.length/\(y.1=(ps.getD i (0,[])).1∨y.1=x))/\∀(j:Nat) (c:C),[C.int .i64 y.1,sP y][j]?=aa c->∃w,M.up b o u f (n+i*2+j)=aa w/\Rd (M.up b o u) w c) ps.length λi hi=>by obtain⟨N,E,r0⟩:=r i hi 0 _ rfl;obtain⟨w1,H,p⟩:=r i hi 1 _ rfl;obtain⟨F,v0,A,I,B⟩:=h.fi E r0;have J:=h.fl H p;obtain⟨d,G,K⟩:=Og h p;exact⟨(F,d),⟨G,B⟩,two (P:=λj c=>∃w,M.up b o u f (n+i*2+j)=aa w/\Rd (M.up b o u) w c) ⟨v0,A,I _⟩ ⟨w1,J,K⟩⟩
 refine⟨l,⟨q,λi hi=>(k i hi).1⟩,?_⟩;show Rd _ _ (.sl ae 2 l.length (cP.fn l));rw[q];exact .Tm z D s (λ_ _=>rfl) λi hi=>(k i hi).2
structure Av(s:bk):Prop where
 p:∀p∈s.1,p.2.length<=4/\0<=p.1/\p.1<=99
 pl:s.1.length<=20
 ex:∃ps,D7 (ps,s.2)
def D7.UR{s:bk}(h:D7 s):Av s:=⟨λp a=>by have h1:=(h.p p a).len;have h2:=(h.p p a).no;omega,h.pl,s.1,h⟩
def Av.Zb{s:bk}(h:Av s){a:List ba}(c:Vy 0 s.1 a):Av (a,s.2):=by
 refine⟨λp d=>?_,by rw[c.len];exact h.pl,h.ex⟩;obtain⟨i,hi,rfl⟩:=ll.1 d;have b:i<s.1.length:=by rw[<-c.len];exact hi
 have h1:=c.at' i b;have h2:=h.p _ (iv b (0,[]));grind
def Av.sub{s:bk}(h:Av s){a:List ba}(c:∀p∈a,p∈s.1)(hl:a.length<=s.1.length):Av (a,s.2):=⟨λp b=>h.p p (c p b),dO hl h.pl,h.ex⟩
def Av.size{s:bk}(h:Av s):iM s:=by obtain⟨ps,b⟩:=h.ex;have a:=b.size;have h1:=h.pl;exact⟨by omega,λp c=>by have:=(h.p p c).1;omega,a.sn,a.s2,a.h⟩
def Av.num{s:bk}(h:Av s):GQ s:=by obtain⟨ps,b⟩:=h.ex;have a:=b.num;exact⟨λp c=>by have:=(h.p p c).2;omega,a.s,a.h⟩
def Hp{no k:Int}{t:List bz}(b:dq t=ab):(bT (kM no k t).2).length<=240:=by have a:=pd.1 b;refine Ee ⟨by simpa[kM]using a.2.2.2,λy e=>?_⟩;obtain⟨f,d,rfl⟩:=jS.1 e;have c:=(a.1 f d).2;simp only[ef,bS,bl]at c;have h:=nL f.2;show((pieces f.2).map _).length<=40;grind
def Av.an{s:bk}(h:Av s):(gY s.2.1).length<=4800:=by
 obtain⟨ps,a⟩:=h.ex;have d:=a.sl;have e:(gY s.2.1).length<=240*s.2.1.length:=nT λx c=>by obtain⟨no,t,_,_,b,rfl⟩:=(a.s x c).ex;exact Hp b
 grind
def Av.smT{s:bk}(h:Av s):D9 s:=by
 have a:=h.size;have h1:=h.pl;have h2:=h.an;have c:(bC s.1).length<=4*s.1.length:=nT λp b=>by rw[mx];exact(h.p p b).1
 exact⟨⟨a.p,a.s2,a.sn,by omega⟩,a.p2,by omega⟩
end R1
def eE.Zc{X:Cx P}{x:Nat->D}{e:Bool->Bool->Bool->Bool->List bd}{j f g d:Nat}(h1:av j i=ae)(h2:av f i=ae)(k:av g i=ae)(n:av d i=ae)(l:fI all d i=ab)(h:∀a b c,OA X N all o (jI all φ x i) (e a b c ae) (x i) (e a b c ae)):eE X N all φ x (rF e j f g d) i o:=by intro D m p;grind[qz]
namespace R1
variable {X:Cx ag}[X.ic]
abbrev SpI(k:Nat):={q:bk×Nat // Av q.1/\k<=q.2/\q.2<=k+1100}
def Av.del{s:bk}(h:Av s)(i:Nat):Av (s.1.take i++s.1.drop (i+1),s.2):=h.sub (λp a=>by grind) (by grind)
def pX{b o cap:Nat}{ps:List ba}(h:RO (.slice (aa ⟨b,o,af⟩) ps.length cap) ps M)(hi:i<ps.length):(∃n,M b (o+i*2)=aa (.int .i64 n))/\∃w,M b (o+i*2+1)=aa w/\Rd M w (sP (ps.getD i (0,[]))):=by obtain⟨a,c2,l,m,e,_,_,d,_,c⟩:=Rd.Gq h;cases e;cases d (by omega);obtain⟨k,j,r0⟩:=c i hi 0 _ rfl;obtain⟨w1,g,f⟩:=c i hi 1 _ rfl;refine⟨?_,w1,g,f⟩;cases r0;grind
theorem FP{c o cap:Nat}{b:List cn}(h:Rd M (.slice (aa ⟨c,o,af⟩) b.length cap) (.sl ae 2 b.length (er.fn b)))(hi:0<b.length):∃s,M c (o+0*2+1)=aa (.string s):=by obtain⟨a,c2,j,k,e,_,_,d,_,g⟩:=h.Gq;cases e;cases d hi;obtain⟨w1,i,f⟩:=g 0 hi 1 _ rfl;cases f;grind
abbrev lL(s:bk)(i:Nat):Nat:=cq s.1.length (aa (i:Int))-cq 0 af
abbrev xF(s:bk)(i:Nat):Nat:=cq s.1.length af-cq 0 (aa ((i:Int)+1))
abbrev Dg(s:bk):Nat->List C:=kX (cq 0 af) (cP.fn s.1)
abbrev yZ(s:bk)(i:Nat):Nat->List C:=kX (cq 0 (aa ((i:Int)+1))) (cP.fn s.1)
abbrev bf1(s:bk)(i:Nat):bd:=.buf 43 2 (0+lL s i) (cy 0 (λi=>([]:List (List C)).getD i []) (Dg s))
abbrev VA(s:bk)(i:Nat):bd:=.buf 43 2 (0+lL s i+xF s i) (cy (0+lL s i) (cy 0 (λi=>([]:List (List C)).getD i []) (Dg s)) (yZ s i))
def Zd(m:Nat)(b:Nat->Int)(k:Int)(s:bk)(i:Nat)(a c d e:Bool):List bd :=
 match a,c,d,e with
 |true,ab,ab,ab=>[ku m b k,iY,xE,.cells 27 [.bp 4 (.sl (0+lL s i+xF s i) 2 0 (0+lL s i+xF s i)),.c (No s.2.1),.c (Np s.2.2)],VA s i]
 |true,ab,ab,ae=>[ku m b k,iY,xE,qN s,VA s i]
 |true,ab,ae,_=>[ku m b k,iY,xE,qN s,VA s i]
 |true,ae,_,_=>[ku m b k,iY,xE,qN s,bf1 s i]
 |false,_,_,_=>[ku m b k,iY,xE,qN s]
abbrev x9S(s:bk)(i j:Nat):D :=
 [.e (.one (.c (.sl ab 2 0 λi=>([]:List (List C)).getD i []))),.e (.one (.ptr 3 0)),cP.sl s.1,dI i,.e (.one (.c (.sl ae 2 (lL s i) (Dg s)))),.e (.one (.bp 4 (.sl (0+lL s i) 2 0 (0+lL s i)))),
  .e (.one (.ptr 3 0)),cP.sl s.1,dI i,dI ((i:Int)+1),.e (.one (.c (.sl ae 2 (xF s i) (yZ s i)))),.e (.one (.bp 4 (.sl (0+lL s i+xF s i) 2 0 (0+lL s i+xF s i)))),.e (.one (.ptr 3 0)),.any].getD j .any
set_option maxRecDepth 20000 in
def Cv(m:Nat)(b:Nat->Int)(J:Bytes b)(k:Nat)(hk:k<=40000)(L:m<=1048576):
  dL (ι:=SpI k) X 22 [.e (.one (.ptr 0 0))] [ku m b k] (λq=>qg q.1.1) (λq=>[ku m b q.1.2]):=by
 refine dL.n7 tok Tryz.func22 rfl rfl rfl λhf=>?_;refine bx rfl ar ?_;refine AK.cP (Cu m b J k hk L) [0] rfl (λ_=>rfl) ?_;rintro⟨⟨s,v,k1⟩,t,A,G⟩;simp only at t A G;refine aW [(1000002,ab)] rfl ar ?_;have hpl:=t.pl;by_cases V:s.1.length=0
 .refine AK.sM 2 3 0 (E:=43) (k:=2) (cl:=QS s.1) (by decide) rfl rfl rfl (λ_ h=>h) ?_;refine aW [(10,ab)] rfl (by simp[V]) ?_;refine AK.lH ⟨(s,k1),t.UR,A,by grind⟩ [0] rfl rfl rfl rfl rfl rfl rfl rfl ?_ rfl rfl rfl rfl g7;simp
 refine AK.fact (PM.of (l:=2) (p:=∃a cap b' o,v=.slice a s.1.length cap/\(0<s.1.length->a=aa ⟨b',o,af⟩)) rfl λM f=>?_) ?_
 .grind [Rd.Gq]
 rintro⟨a,cap,b',o,rfl,ha⟩;obtain rfl:=ha (by omega);refine aW [(10,ae)] rfl (by simp[V];omega) ?_;refine AK.cP (gA m b J k1 s.1.length (by omega) L (by omega)) [0] rfl (λ_=>rfl) ?_;rintro⟨i,Z,y⟩;obtain⟨i,rfl⟩:=Int.eq_ofNat_of_zero_le Z;have y:i<s.1.length:=by omega
 refine bx rfl ar ?_;refine AK.cP (gA m b J (k1+1) 24 (by omega) L (by omega)) [0] rfl (λ_=>rfl) ?_;rintro⟨w,w0,w1⟩;refine aW [(1000006,ab)] rfl ar ?_;have B:0<(s.1.getD i (0,[])).2.length:=t.ne _ (iv y (0,[]));by_cases I:w=0
 .have o4:au (fE s.1.length af (aa (i:Int))):=by simp only[fE,au];omega
  have o9:au [bw .i64 ((i:Int)+1)]:=by simp only[au,bw];omega
  have Q:au (fE s.1.length (aa ((i:Int)+1)) af):=by simp only[fE,au];omega
  have W:lL s i=i:=by show((i:Int)).toNat-0=i;omega
  have e2:xF s i=s.1.length-(i+1):=by show s.1.length-((i:Int)+1).toNat=_;omega
  have o5:au [(0+lL s i)*i43.bytes<=140737488355328]:=by rw[show i43.bytes=32 from rfl,W];simp only[au];omega
  have R:au [0+lL s i=0+lL s i,0+lL s i=0+lL s i,(0+lL s i+xF s i)*i43.bytes<=140737488355328]:=by refine⟨rfl,rfl,?_⟩;rw[show i43.bytes=32 from rfl];simp only[au];omega
  refine AK.sM 2 3 0 (E:=43) (k:=2) (cl:=QS s.1) (by decide) rfl rfl rfl (λ_ h=>h) ?_;refine aW [(20,ab),(1000007,ab)] rfl (by simp[I]) ?_;refine AK.flags di (x9S s i) (rF (Zd m b (k1+1+1:Nat) s i) 5 11 12 13) rfl rfl rfl rfl
   ⟨.SR tok bA.nil,
   .SR tok bA.nil,
   eE.Zc rfl rfl rfl rfl rfl (λa b c=>by cases a<;>cases b<;>cases c<;>exact OA.dr tok bA.nil rfl),
   .SR tok bA.nil,
   .Vi tok bA.nil o4,
   eE.c1 rfl rfl rfl rfl rfl rfl (en (ds:=[(3000026,ab)]) tok bA.nil (σ':=aa _) rfl o5),
   .SR tok bA.nil,
   eE.Zc rfl rfl rfl rfl rfl (λa b c=>by cases a<;>cases b<;>cases c<;>exact OA.dr tok bA.nil rfl),
   .SR tok bA.nil,
   .Vi tok bA.nil o9,
   .Vi tok bA.nil Q,
   eE.c2 rfl rfl rfl rfl rfl rfl (en (ds:=[]) tok bA.nil (σ':=aa _) rfl R),
   eE.c3 rfl rfl rfl rfl rfl rfl (OA.dr tok bA.nil rfl),
   eE.c4 rfl rfl rfl rfl rfl rfl (en (ds:=[]) tok bA.nil (σ':=aa _) rfl ar),ar⟩ ?_
  intro D r;show AK X _ _ _ _ _ (Zd m b (k1+1+1:Nat) s i (D 5) (D 11) (D 12) (D 13));rw[r 5 (by decide),r 11 (by decide),r 12 (by decide),r 13 (by decide)];refine AK.IU (φ':=[(2,.e (.one (.ptr 1 0))),(3,.e (.one (.ptr 3 0)))]) (σ':=[ku m b (k1+1+1:Nat),iY,xE,.cells 27 [.bp 4 (.sl (0+lL s i+xF s i) 2 0 (0+lL s i+xF s i)),.c (No s.2.1),.c (Np s.2.2)],VA s i]) ?_ rfl (by simp) rfl (by simp);refine AK.ru 4 rfl rfl rfl (by simp) (by simp) ?_;refine bx rfl ar ?_;refine AK.lH ⟨((s.1.take i++s.1.drop (i+1),s.2),k1+1+1),t.UR.del i,by grind,by grind⟩ [0] rfl rfl rfl rfl rfl rfl rfl rfl ?_ rfl rfl rfl rfl g7;simp only[au.cat,au];refine⟨⟨by grind,λj hj=>?_⟩,⟨ar,.same⟩,⟨ar,.same⟩,ar⟩;show cy (0+lL s i) (cy 0 (λi=>([]:List (List C)).getD i []) (Dg s)) (yZ s i) j=_;rw[W,br];simp only[cy,Dg,yZ,kX,cq,br,gw,bM,j3,jY.fn,xb,show((i:Int)+1).toNat=i+1 by omega];grind
 by_cases H:w=1
 .refine aW [(20,ae),(35,ab)] rfl (by simp[H];omega) ?_;refine AK.hand _ _ rfl rfl (jL.Qj tok 2 rfl rfl (λ_=>rfl) rfl rfl (λM f=>?_)) λw1=>?_
  .obtain⟨_,w,g,q2⟩:=pX f y;exact⟨w,g,q2.cell⟩
  refine AK.Ot (PM.of (l:=2) (p:=∃U T c2,w1=.slice (aa ⟨U,T,af⟩) (s.1.getD i (0,[])).2.length c2) rfl λM f=>?_) ?_
  .obtain⟨_,w,g,q2⟩:=pX f.1 y;cases g.symm.trans f.2;grind[Rd.Gq]
  rintro⟨U,T,c2,rfl⟩;refine bx rfl (by simp only[au];omega) ?_;refine AK.hand _ _ rfl rfl (jL.Fb tok 2 rfl rfl rfl rfl rfl rfl rfl (λM f=>?_)) ?_
  .obtain⟨_,w,g,q2⟩:=pX f.1 y;cases g.symm.trans f.2;grind[FP]
  rintro⟨u,O⟩;refine aW [(1000012,ab)] rfl ar ?_;refine AK.HU (ι:={d:List ba // Vy 0 s.1 d}) 2 (λq=>PM (RO (.slice (aa ⟨b',o,af⟩) s.1.length cap) q.1)) rfl (λ_ ch K=>?_) ?_
  .obtain⟨N,g2,M,f,Y⟩:=K;obtain⟨_,w,g,q2⟩:=pX f.1 y;cases g.symm.trans f.2;obtain⟨s0,P⟩:=FP q2 B;obtain⟨d,S,p2⟩:=Ll (x:=0) (Fit.str s0 P _ O) f.1;exact⟨⟨d,S⟩,N,g2,by grind⟩
  rintro⟨d,z⟩;refine AK.sM 2 3 0 (E:=43) (k:=2) (cl:=QS d) (by decide) rfl rfl rfl (λ_ h=>by grind) ?_;refine bx rfl ar ?_;refine AK.lH ⟨((d,s.2),k1+1+1),t.UR.Zb z,by grind,by grind⟩ [0] rfl rfl rfl rfl rfl rfl rfl rfl ?_ rfl rfl rfl rfl g7;simp
 by_cases F:w=2
 .refine aW [(20,ae),(35,ae),(45,ab)] rfl (by simp[F];omega) ?_;refine AK.hand _ _ rfl rfl (jL.Fb tok 2 rfl rfl rfl rfl rfl rfl rfl (λM f=>?_)) ?_
  .obtain⟨⟨n,g⟩,_⟩:=pX f y;exact⟨_,g⟩
  rintro⟨u,O⟩;refine aW [(1000012,ab)] rfl ar ?_;refine AK.HU (ι:={d:List ba // Vy 0 s.1 d}) 2 (λq=>PM (RO (.slice (aa ⟨b',o,af⟩) s.1.length cap) q.1)) rfl (λ_ ch K=>?_) ?_
  .obtain⟨N,g2,M,f,Y⟩:=K;obtain⟨⟨n,g⟩,_⟩:=pX f y;obtain⟨d,S,p2⟩:=Ll (x:=0) (Fit.int n g O) f;exact⟨⟨d,S⟩,N,g2,by rw[Y];exact p2⟩
  rintro⟨d,z⟩;refine AK.sM 2 3 0 (E:=43) (k:=2) (cl:=QS d) (by decide) rfl rfl rfl (λ_ h=>by grind) ?_;refine bx rfl ar ?_;refine AK.lH ⟨((d,s.2),k1+1+1),t.UR.Zb z,by grind,by grind⟩ [0] rfl rfl rfl rfl rfl rfl rfl rfl ?_ rfl rfl rfl rfl g7;simp
 refine AK.sM 2 3 0 (E:=43) (k:=2) (cl:=QS s.1) (by decide) rfl rfl rfl (λ_ h=>h) ?_;refine aW [(20,ae),(35,ae),(45,ae)] rfl (by simp[I,H,F]) ?_;refine AK.lH ⟨(s,k1+1+1),t.UR,by grind,by grind⟩ [0] rfl rfl rfl rfl rfl rfl rfl rfl ?_ rfl rfl rfl rfl g7;simp
end R1
namespace R1
section
variable {X:Cx ag}
def w7(w:c7)(a:iM w.1):Ev X 11 [LR w,LR w] [] (dB ab) []:=by refine Ev.bQ Tryz.func11 rfl λc=>?_;have b:bA X [(18,zU [qg w.1,qg w.1] (dB ab)),(35,Q0)]:=.cons (DI (DV w.1 a)) (.cons Ub .nil);refine bq b [(10,ab),(17,ab)] rfl ?_ (AK.bo rfl);simp[cI.aO];exact⟨rfl,rfl,rfl⟩
structure UZ(s:bk):Prop where
 sz:iM s
 sm:D9 s
 nu:GQ s
 an:(gY s.2.1).length<=4800
abbrev DrB:={q:bk×List Int // UZ q.1/\q.2.length<=5}
def Az(m:Nat)(b:Nat->Int)(g:Bytes b)(l:m<=1048576):dL (ι:=DrB) (Cx.beside ag) 8 [.e (.one (.c (.sl ae 1 m (GU b))))] [] (λq=>.fw [.one (.c (.int .i64 7)),.agg [.c (QS q.1.1.1),.c (No q.1.1.2.1),.c (Np q.1.1.2.2)],.one (.c (.sl ae 1 q.1.2.length (cI.fn q.1.2)))]) (λ_=>[]):=by refine dL.HZ Tryz.func8 rfl rfl (dJ rfl) (AK.of_code ?_);refine bx rfl ar ?_;refine AK.cP (NW m b l) [] rfl (λ_=>rfl) ?_;rintro⟨f,hm'⟩;refine bx rfl ar ?_;refine AK.cP (Cv f b g 0 (by omega) hm') [1] rfl (λ_=>rfl) ?_;rintro⟨⟨s,k⟩,a,_,j⟩;simp only at a j;refine bx rfl ar ?_;refine AK.cP (Hs f b g k (by omega) hm') [1] rfl (λ_=>rfl) ?_;rintro⟨i,d⟩;refine bx rfl ar ?_;refine AK.freeze 3 0 rfl rfl rfl ?_;refine AK.il (λ_ _ _ h=>⟨⟨(s,i),⟨a.size,a.smT,a.num,a.an⟩,d⟩,h⟩) ?_;refine AK.zh tok [] rfl ?_ rfl rfl rfl tU;simp
end
def Oj{k:Int}{s:bk}{keep:List Int}(h:wN k s):mH k ((s.1,s.2.1.filter λx=>keep.contains x.1,s.2.2),dz (s.2.1.filter λx=>keep.contains x.1),s.1.map (·.1)):=by refine⟨⟨h.pk,h.pa,h.nd,λx a=>h.sn x (g9.1 a).1,h.sa.filter _,h.key,h.log,h.len⟩,λx a n b=>iw.2 ⟨x,a,b⟩,λn b=>?_,List.pairwise_map.2 h.pa⟩;obtain⟨p,c,rfl⟩:=jS.1 b;exact⟨p,c,rfl⟩
def LC{k:Int}{x:cC}{ps:List ba}{n:Int}(h:(cj k x ps).isSome=ab)(c:n∈bT x.2):n∈bC ps:=by
 obtain⟨y,g,c⟩:=qV.1 c;unfold cj at h;split at h
 .rename_i d;simp only[bS,List.all_eq_true]at d;have b:=d.1.2 y g;unfold fileOf at b;cases a:dD k ps y.2 with
  |none=>rw[a]at b;cases b
  |some l =>
   unfold dD at a;split at a
   .rename_i f;have:=List.all_eq_true.1 f n c;obtain⟨p,e⟩:=Option.isSome_iff_exists.1 this;exact(Eu e).2.2
   .cases a
 .cases h
abbrev od(s:bk)(keep:List Int):List cC:=s.2.1.filter λx=>keep.contains x.1
abbrev Hu(s:bk)(keep:List Int):bk:=(lb (dz (od s keep)) s.1,od s keep,s.2.2)
abbrev p9(s:bk)(keep:List Int):c7:=((s.1,od s keep,s.2.2),dz (od s keep),s.1.map (·.1))
section
variable {k:Int}{s:bk}{keep:List Int}(h:wN k s)
include h
def yK:Cw k s keep=(p9 s keep,ab):=bn (pe.2 h)
def Cz:LB k (p9 s keep)=(Hu s keep,ab):=by have e:=Hy h (od s keep) (dz (od s keep));unfold LB;rw[bn (tF.2 (Oj h))];simp only[mx];rw[e]
def LD{n:Int}(a:n∈dz (od s keep)):n∈bC s.1:=by obtain⟨x,b,a⟩:=iw.1 a;exact LC (h.sn x (g9.1 b).1).2 a
def CB:(bC (Hu s keep).1).length=(dz (od s keep)).length:=by
 rw[mJ];have d:=(te (od s keep)).imp (S:=λa b=>a≠b) λh=>by omega
 refine Nat.le_antisymm (wF _ _ (h.nd.filter _) λn c=>by simpa using(g9.1 c).2) (wF _ _ d λn c=>g9.2 ⟨LD h c,by simpa using c⟩)
end
def CC{ms:List Int}{ps:List ba}{q:ba}(h:q∈lb ms ps):∃p∈ps,q=cD p ms:=by unfold lb at h;obtain⟨p,a,rfl⟩:=jS.1 (g9.1 h).1;exact⟨p,a,rfl⟩
def CE(ms:List Int)(ps:List ba):(lb ms ps).length<=ps.length:=by unfold lb;exact dO (kD _ _) (by simp)
def w9{s:bk}(h:iM s)(keep:List Int):iM (p9 s keep).1 :=
 ⟨h.p,h.p2,dO (kD _ _) h.sn,λx a=>h.s2 x (g9.1 a).1,h.h⟩
def w8{s:bk}(h:iM s)(keep:List Int):iM (Hu s keep):=by refine⟨dO (CE _ _) h.p,λq a=>?_,dO (kD _ _) h.sn,λx b=>h.s2 x (g9.1 b).1,h.h⟩;obtain⟨p,c,rfl⟩:=CC a;exact dO (kD _ _) (h.p2 p c)
def LF{s:bk}(h:D9 s)(b:iM s)(keep:List Int):D9 (p9 s keep).1 :=
 ⟨⟨h.pN,λx a=>h.sm x (g9.1 a).1,dO (kD _ _) h.sN,dO (k9 _ _) h.aN⟩,h.pk,h.nm⟩
def FT{s:bk}(h:D9 s)(a:iM s)(keep:List Int):Vx (p9 s keep):=by refine⟨LF h a keep,?_,by have:=a.p;simpa using this⟩;have:=sW (od s keep) _ (aZ _);rw[cO]at this;have b:=k9 s.2.1 λx=>keep.contains x.1;have:=h.aN;exact dO ‹_› (dO b this)
def Lt{s:bk}(h:D9 s)(b:iM s)(keep:List Int):D9 (Hu s keep):=by have a:=w8 b keep;refine⟨⟨a.p,a.s2,a.sn,(LF h b keep).aN⟩,a.p2,?_⟩;rw[mJ];exact dO (kD _ _) h.nm
abbrev CM(n i:Nat):Nat:=cq n (aa (i:Int))-cq 0 af
abbrev Pj(n i:Nat):Nat:=cq n af-cq 0 (aa ((i:Int)+1))
abbrev VC(l:List Int):Nat->List C:=kX (cq 0 af) (cI.fn l)
abbrev VD(l:List Int)(i:Nat):Nat->List C:=kX (cq 0 (aa ((i:Int)+1))) (cI.fn l)
abbrev XT:Nat->List C:=λi=>([]:List (List C)).getD i []
abbrev UW(l:List Int):Nat->List C:=cy 0 XT (VC l)
abbrev VE(l:List Int)(i:Nat):Nat->List C:=cy (0+CM l.length i) (UW l) (VD l i)
abbrev Ze(a:Bool):Nat:=match a with|true=>4|false=>3
abbrev ixA(a:Bool):Nat:=match a with|true=>3|false=>4
abbrev bsL(s:bk)(l:List Int)(i:Nat)(w:c7):List D :=
 [dI 7,qg s,.e (.one (.c (.sl ab 1 0 XT))),cI.sl l,dI i,.e (.one (.c (.sl ae 1 (CM l.length i) (VC l)))),.any,cI.sl l,dI i,dI ((i:Int)+1),.e (.one (.c (.sl ae 1 (Pj l.length i) (VD l i)))),.any,VB w ab,VB w ab,LR w,dB ab,.any,.any,dB ab]
abbrev xL(s:bk)(l:List Int)(i:Nat)(w:c7)(a:Bool)(j:Nat):D :=
 match av j 6 with
 |true=>.e (.one (.vec (Ze a) 1 (0+CM l.length i) (UW l)))
 |false=>match av j 11 with
  |true=>.e (.one (.vec (Ze a) 1 (0+CM l.length i+Pj l.length i) (VE l i)))
  |false=>match av j 16 with
   |true=>.e (.one (.ptr (ixA a) 0))
   |false=>(bsL s l i w).getD j .any
def HL:∀σ:List bd,eb [] [] σ=σ:=λσ=>jR σ
def UX{s:bk}{l:List Int}{w:c7}{g a:Bool}(k:j≠6)(b:j≠11)(c:j≠16):xL s l i w g j=xL s l i w a j:=by
 have e:∀m,j≠m->av j m=ae:=λm h=>by
  cases d:av j m with
  |false=>rfl
  |true=>exact absurd (bX d) h
 simp only[xL,e 6 k,e 11 b,e 16 c]
abbrev vL(l:List Int)(i:Nat)(a c:Bool):List bd:=match a,c with
 |false,_=>[]
 |true,ae=>[.vec 3 1 (0+CM l.length i) (UW l)]
 |true,ab=>[.vec 3 1 (0+CM l.length i+Pj l.length i) (VE l i)]
abbrev Zf(w:c7)(d e:Bool):List bd:=match d,e with
 |false,_=>[]
 |true,ae=>[.cells 32 Hq]
 |true,ab=>[sX w]
abbrev VF(l:List Int)(i:Nat)(w:c7)(b a c d e:Bool):List bd:=match b with
 |true=>Zf w d e++vL l i a c
 |false=>vL l i a c++Zf w d e
abbrev SL(s:bk)(f:c7)(l:List Int)(i:Nat)(w:c7)(a:Bool)(D:Nat->Bool):List bd:=[qN s,sX f,sX f]++VF l i w a (D 6) (D 11) (D 16) (D 17)
def xH(a:Bool)(D:Nat->Bool):Prop:=(D 6=ab->D 16=ae->a=ae)/\(D 16=ab->D 6=ae->a=ab)/\(D 11=ab->D 6=ab)
section
variable {X:Cx ag}{s:bk}{f w:c7}{l:List Int}
def _root_.Go.AM.eR.qL(m:av 6 n=ae)(d:av 11 n=ae)(e:av 16 n=ae)(j:av 17 n=ae)(h:∀c T,OA X N all o (jI all φ (xL s l i w c) n) ([qN s,sX f,sX f]++T) (xL s l i w c n) ([qN s,sX f,sX f]++T)):eR X N all φ (xL s l i w) (SL s f l i w) xH n o :=
 eR.of λc D p _ _=>by have k:cK n D 6=D 6:=dc m;have b:cK n D 11=D 11:=dc d;have a:cK n D 16=D 16:=dc e;have g:cK n D 17=D 17:=dc j;refine⟨by unfold xH;rw[k,a,b];exact p,?_⟩;show OA X N all o _ _ _ ([qN s,sX f,sX f]++VF l i w c (cK n D 6) (cK n D 11) (cK n D 16) (cK n D 17));rw[k,b,a,g];exact h _ _
def _root_.Go.AM.eR.Lr(g:c8 ag T)(hC:bA X CT)(h:∀a b,tR T CT [] all (jI all φ (xL s l i w a) n) ([qN s,sX f,sX f]++b) o=aa (xL s l i w a n,af,[]):=by intro a b;cases a<;>rfl)(j:av 6 n=ae:=by rfl)(c:av 11 n=ae:=by rfl)(d:av 16 n=ae:=by rfl)(e:av 17 n=ae:=by rfl):eR X N all φ (xL s l i w) (SL s f l i w) xH n o :=
 .qL j c d e λa b=>OA.dr g hC (h a b)
def _root_.Go.AM.eR.XU(g:c8 ag T)(hC:bA X CT)(ho:au obs)(h:∀a b,tR T CT [] all (jI all φ (xL s l i w a) n) ([qN s,sX f,sX f]++b) o=aa (xL s l i w a n,af,obs):=by intro a b;cases a<;>rfl)(j:av 6 n=ae:=by rfl)(c:av 11 n=ae:=by rfl)(d:av 16 n=ae:=by rfl)(e:av 17 n=ae:=by rfl):eR X N all φ (xL s l i w) (SL s f l i w) xH n o :=
 .qL j c d e λa b=>OA.eval g hC (h a b) ho
def kA{h:Bool}{D:Nat->Bool}{a c d e:Bool}(k:D 6=a)(b:D 11=c)(g:D 16=d)(j:D 17=e):SL s f l i w h D=[qN s,sX f,sX f]++VF l i w h a c d e:=by show _++VF l i w h (D 6) (D 11) (D 16) (D 17)=_;rw[k,b,g,j]
def Ls{g b:Bool}{D:Nat->Bool}(h:D 6=ae)(c:D 11=ae)(d:D 16=ae)(j:Nat)(a:D j=ab):xL s l i w b j=xL s l i w g j :=
 UX (λe=>by rw[e,h]at a;cases a) (λe=>by rw[e,c]at a;cases a) λe=>by rw[e,d]at a;cases a
def _root_.Go.AM.eR.eL(h:∀b (D:Nat->Bool),xH b D->(∀j,fI all n j=ab->D j=ab)->(∀j,(j=n∨fI all j n=ab)->D j=ae) ->
  ∃a,(∀j,D j=ab->xL s l i w a j=xL s l i w b j)/\xH a (cK n D)/\OA X N all o (jI all φ (xL s l i w b) n) (SL s f l i w b D) (xL s l i w a n) (SL s f l i w a (cK n D))):eR X N all φ (xL s l i w) (SL s f l i w) xH n o :=
 eR.Wm λb D e h1 h2=>by obtain⟨a,k1,c,d⟩:=h b D e h1 h2;exact⟨Unit,_,_,oq.xo d,λ_=>⟨a,⟨k1,c⟩,rfl,rfl⟩⟩
end
def ua(m K:Nat)(b b':Nat->Int)(hb:Bytes b)(_:Bytes b')(_:m<=9223372036854775807)(_:K<=9223372036854775807):Ev (Cx.beside ag) 5 [.e (.one (.c (.sl ae 1 m (GU b)))),.e (.one (.c (.sl ae 1 K (GU b'))))] [] (dB ab) []:=by
 refine Ev.bQ Tryz.func5 rfl λhf=>?_;by_cases hm:1048576<m
 .refine aW [(22,ab),(26,ab)] rfl (by simp;omega) (AK.bo rfl ?_);simp
 by_cases hm':1048576<K
 .refine aW [(22,ae),(26,ab)] rfl (by simp;omega) (AK.bo rfl ?_);simp
 refine aW [(22,ae),(26,ae)] rfl (by simp;omega) ?_;refine AK.cP (Az m b hb (by omega)) [] rfl (λ_=>rfl) ?_;rintro⟨⟨s,keep⟩,Y,hkp⟩;simp only at Y hkp;have B:=Y.sz;have z:=Y.sm;have R:=Hr (X:=Cx.beside ag) 7 s keep B z.toY0;have v:=yJ 7 s keep B z;refine bx rfl ar ?_;cases hk:fN 7 s with
 |false =>
  have e:Cw 7 s keep=(UU,ae):=a9 (by rw[hk];simp);rw[e]at R v;refine AK.cQ R [] rfl ?_;refine bx rfl ar ?_;refine AK.cQ v [] rfl ?_;have c1:bA (Cx.beside ag) [(11,zU [LR UU,LR UU] (dB ab))]:=.cons (DI (w7 UU ⟨by simp,by simp,by simp,λx h=>absurd h (by simp),by simp⟩)) .nil;refine bq c1 [(50,ae),(56,ae),(59,ab),(63,ab)] rfl (by simp) (AK.bo rfl ?_);simp
 |true =>
  have E:=pe.1 hk;rw[yK E]at R v;refine AK.cQ R [] rfl ?_;refine bx rfl ar ?_;refine AK.cQ v [] rfl ?_;have hze:=w8 B keep;have hse:=Lt z B keep;have c1:bA (Cx.beside ag) [(11,zU [LR (p9 s keep),LR (p9 s keep)] (dB ab))]:=.cons (DI (w7 _ (w9 B keep))) .nil;refine bq c1 [(50,ae),(56,ae),(59,ae),(1000008,ab)] rfl (by simp) ?_;by_cases C:keep=[]
  .subst C;refine bF [(70,ab)] rfl (by simp) (AK.bo rfl ?_);simp
  have G:0<keep.length:=ui.2 C;obtain⟨i,hi,W⟩:∃i:Nat,i<keep.length/\(K:Int) % (keep.length:Int)=i:=⟨K % keep.length,jo _ G,by simp⟩
  refine bF [(70,ae),(1000011,ab)] rfl (by simp[C];omega) ?_;simp only[W];have N:CM keep.length i=i:=by show((i:Int)).toNat-0=i;omega
  have U:Pj keep.length i=keep.length-(i+1):=by show keep.length-((i:Int)+1).toNat=_;omega
  have hB:=yJ 7 s (keep.take i++keep.drop (i+1)) B z;rw[yK E]at hB;have hle:=hf.sl 0 rfl;have o5:au (fE keep.length af (aa (i:Int))):=by simp only[fE,au];omega
  have o6:au [(0+CM keep.length i)*i3.bytes<=140737488355328,0=0∨0<CM keep.length i]:=⟨by rw[show i3.bytes=8 from rfl,N];omega,.inl rfl⟩
  have M:au [0+CM keep.length i=0+CM keep.length i,UW keep=UW keep,(0+CM keep.length i+Pj keep.length i)*i3.bytes<=140737488355328]:=⟨rfl,rfl,by rw[show i3.bytes=8 from rfl,N,U];simp only[au];omega⟩
  have o9:au [bw .i64 ((i:Int)+1)]:=by simp only[au,bw];omega
  have Z:au (fE keep.length (aa ((i:Int)+1)) af):=by simp only[fE,au];omega
  have hEq:cp (0+CM keep.length i+Pj keep.length i) (VE keep i) (cI.fn (keep.take i++keep.drop (i+1))):=λj hj=>by show cy (0+CM keep.length i) (cy 0 XT (VC keep)) (VD keep i) j=_;rw[N,U]at hj;rw[N,br];simp only[cy,VC,VD,kX,cq,br,gw,bM,j3,jY.fn,xb,show((i:Int)+1).toNat=i+1 by omega];grind
  have O:=r6 7 (p9 s keep) (FT z B keep) (w9 B keep);rw[Cz E]at O;have P:=r6 7 (p9 s (keep.take i++keep.drop (i+1))) (FT z B _) (w9 B _);rw[Cz E]at P;have Ts:=CB (keep:=keep) E;have V:=CB (keep:=keep.take i++keep.drop (i+1)) E;have J:(dz (od s (keep.take i++keep.drop (i+1)))).length<=(dz (od s keep)).length:=by
   refine wF _ _ ((te _).imp (S:=λa b=>a≠b) λh=>by omega) λq T=>?_;obtain⟨x,hx,T⟩:=iw.1 T;refine iw.2 ⟨x,?_,T⟩;obtain⟨A,y⟩:=g9.1 hx;refine g9.2 ⟨A,?_⟩;have F:x.1∈keep.take i++keep.drop (i+1):=by simpa using y
   rcases fz.1 F with F|F
   .simpa using ji F
   .simpa using ug F
  have Q:=w8 B (keep.take i++keep.drop (i+1));have H:=Lt z B (keep.take i++keep.drop (i+1));refine AK.Iu di (xL s keep i (p9 s (keep.take i++keep.drop (i+1)))) (SL s (p9 s keep) keep i (p9 s (keep.take i++keep.drop (i+1)))) xH ab ⟨λh=>(by cases h),λh=>(by cases h),λh=>(by cases h)⟩ rfl rfl rfl rfl
   ⟨.Lr tok bA.nil,.Lr tok bA.nil,.Lr tok bA.nil,.Lr tok bA.nil,.Lr tok bA.nil,.XU tok bA.nil o5,?_,.Lr tok bA.nil,.Lr tok bA.nil,.XU tok bA.nil o9,.XU tok bA.nil Z,?_,?_,.Lr tok bA.nil,.Lr tok bA.nil,.Lr tok bA.nil,?_,?_,.Lr tok bA.nil,ar⟩ ?_
  .refine eR.eL λu D v A y=>?_;have o:D 6=ae:=y 6 (.inl rfl);have g:D 11=ae:=y 11 (.inr rfl);have k:D 17=ae:=y 17 (.inr rfl);have r:cK 6 D 6=ab:=nF;have n:cK 6 D 11=ae:=(dc rfl).trans g;have p:cK 6 D 17=ae:=(dc rfl).trans k;cases d:D 16 with
   |false =>
    have u16:cK 6 D 16=ae:=(dc rfl).trans d;refine⟨ae,Ls o g d,⟨λ_ _=>rfl,λh _=>(by rw[u16]at h;cases h),λ_=>r⟩,?_⟩;rw[kA o g d k,kA r n u16 p];cases u<;>exact en (ds:=[]) tok bA.nil (σ':=aa _) rfl o6
   |true =>
    have u16:cK 6 D 16=ab:=(dc rfl).trans d;obtain rfl:=v.2.1 d o;refine⟨ab,λ_ _=>rfl,⟨λ_ h=>(by rw[u16]at h;cases h),λ_ _=>rfl,λ_=>r⟩,?_⟩;rw[kA o g d k,kA r n u16 p];exact en (ds:=[]) tok bA.nil (σ':=aa _) rfl o6
  .refine eR.eL λu D v A y=>?_;have o:D 6=ab:=A 6 rfl;have g:D 11=ae:=y 11 (.inl rfl);have k:D 17=ae:=y 17 (.inr rfl);have r:cK 11 D 6=ab:=(dc rfl).trans o;have n:cK 11 D 11=ab:=nF;have u16:cK 11 D 16=D 16:=dc rfl;have p:cK 11 D 17=ae:=(dc rfl).trans k;refine⟨u,λ_ _=>rfl,⟨λ_ h=>v.1 o (u16.symm.trans h),λ_ h=>(by rw[r]at h;cases h),λ_=>r⟩,?_⟩;cases d:D 16 with
   |false =>
    obtain rfl:=v.1 o d;rw[kA o g d k,kA r n (u16.trans d) p];exact en (ds:=[]) tok bA.nil (σ':=aa _) rfl M
   |true =>
    rw[kA o g d k,kA r n (u16.trans d) p];cases u<;>exact en (ds:=[]) tok bA.nil (σ':=aa _) rfl M
  .refine eR.Wm λu D v A y=>?_
   have o:D 6=ab:=A 6 rfl;have g:D 11=ab:=A 11 rfl;have k:D 17=ae:=y 17 (.inr rfl);have r:cK 12 D 6=D 6:=dc rfl;have n:cK 12 D 11=D 11:=dc rfl;have u16:cK 12 D 16=D 16:=dc rfl;have p:cK 12 D 17=D 17:=dc rfl;have L:SL s (p9 s keep) keep i (p9 s (keep.take i++keep.drop (i+1))) u D=SL s (p9 s keep) keep i (p9 s (keep.take i++keep.drop (i+1))) u (cK 12 D):=(kA rfl rfl rfl rfl).trans (kA r n u16 p).symm;have Mm:au (iF [(7:Int)=7] (iF (iF [s.1.length=s.1.length,cp s.1.length (cP.fn s.1) (cP.fn s.1)] (iF [s.2.1.length=s.2.1.length,cp s.2.1.length (eG.fn s.2.1) (eG.fn s.2.1)] (iF [s.2.2.length=s.2.2.length,cp s.2.2.length (cH.fn s.2.2) (cH.fn s.2.2)] [])))
     (iF [0+CM keep.length i+Pj keep.length i=(keep.take i++keep.drop (i+1)).length,cp (0+CM keep.length i+Pj keep.length i) (VE keep i) (cI.fn (keep.take i++keep.drop (i+1)))] []))):=by simp only[au.cat,au,aH,aE];and_intros<;>first|rfl|exact cp.same|exact hEq|(rw[N,U];simp;omega)
   have I:xH u (cK 12 D):=by unfold xH;rw[r,u16,n];exact v
   cases u with
   |false =>
    refine⟨Unit,_,_,oq.kW hB.HX [] rfl rfl rfl rfl ?_ rfl rfl rfl (λ_=>rfl) rfl (λ_=>rfl),λ_=>⟨ae,⟨λ_ _=>rfl,I⟩,rfl,(HL _).trans L⟩⟩;exact Mm
   |true =>
    refine⟨Unit,_,_,oq.kW hB.HX [] rfl rfl rfl rfl ?_ rfl rfl rfl (λ_=>rfl) rfl (λ_=>rfl),λ_=>⟨ab,⟨λ_ _=>rfl,I⟩,rfl,(HL _).trans L⟩⟩;exact Mm
  .refine eR.eL λu D v A y=>?_;have d:D 16=ae:=y 16 (.inl rfl);have k:D 17=ae:=y 17 (.inr rfl);have u16:cK 16 D 16=ab:=nF;have p:cK 16 D 17=ae:=(dc rfl).trans k;cases o:D 6 with
   |false =>
    have g:D 11=ae:=by
     cases h:D 11 with
     |false=>rfl
     |true=>rw[v.2.2 h]at o;cases o
    have r:cK 16 D 6=ae:=(dc rfl).trans o;have n:cK 16 D 11=ae:=(dc rfl).trans g;refine⟨ab,Ls o g d,⟨λh=>(by rw[r]at h;cases h),λ_ _=>rfl,λh=>(by rw[n]at h;cases h)⟩,?_⟩;rw[kA o g d k,kA r n u16 p];cases u<;>exact en (ds:=[]) tok bA.nil (σ':=aa _) rfl ar
   |true =>
    have r:cK 16 D 6=ab:=(dc rfl).trans o;have n:cK 16 D 11=D 11:=dc rfl;obtain rfl:=v.1 o d;refine⟨ae,λ_ _=>rfl,⟨λ_ _=>rfl,λ_ h=>(by rw[r]at h;cases h),λ_=>r⟩,?_⟩;rw[kA o rfl d k,kA r n u16 p];cases D 11<;>exact en (ds:=[]) tok bA.nil (σ':=aa _) rfl ar
  .refine eR.eL λu D v A y=>?_;have o:D 6=ab:=A 6 rfl;have g:D 11=ab:=A 11 rfl;have d:D 16=ab:=A 16 rfl;have k:D 17=ae:=y 17 (.inl rfl);have r:cK 17 D 6=ab:=(dc rfl).trans o;have n:cK 17 D 11=ab:=(dc rfl).trans g;have u16:cK 17 D 16=ab:=(dc rfl).trans d;have p:cK 17 D 17=ab:=nF;refine⟨u,λ_ _=>rfl,⟨λ_ h=>(by rw[u16]at h;cases h),λ_ h=>(by rw[r]at h;cases h),λ_=>r⟩,?_⟩;rw[kA o g d k,kA r n u16 p];cases u<;>exact en (ds:=[]) tok bA.nil (σ':=aa _) rfl ar
  intro u D v t;have o:=t 6 (by decide);have g:=t 11 (by decide);have d:=t 16 (by decide);have k:=t 17 (by decide)
  rw[kA o g d k];clear t;have c2:bA (Cx.beside ag) [(19,Ph)]:=.cons US .nil;cases u<;>(
   refine c9 rfl ar ?_;refine AK.cQ O [] rfl ?_;refine c9 rfl ar ?_;refine AK.cQ P [] rfl ?_;refine bq c2 [(110,ab),(113,ab),(116,ab)] rfl ?_ (AK.bo rfl ?_)
   .simp only[au,cP.list_fn,eG.list_fn,cH.list_fn,bw];and_intros<;>first|rfl|exact True.intro|exact cP.aO _|exact eG.aO _|exact cH.aO _|exact hze.p2|exact hse.nm|exact Q.p2|exact H.nm|omega
   .simp only[au,cP.list_fn,eG.list_fn,cH.list_fn];simp only[bl];change ((bC (Hu s (keep.take i++keep.drop (i+1))).1).length:Int)<=((bC (Hu s keep).1).length:Int)
    rw[Ts,V];exact Int.ofNat_le.mpr J)
end R1
end Go.AM
