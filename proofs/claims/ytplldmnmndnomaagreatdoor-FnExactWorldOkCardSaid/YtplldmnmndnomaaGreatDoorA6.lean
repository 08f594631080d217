/-
  Part 6 of a machine of values without memory, proved sound over the model, and of contracts of the functions that the laws reach. Nothing is taken for granted: no condition.
-/
import Derived.Test.YtplldmnmndnomaaGreatDoorA5
import Derived.Conc.DeferLaws
import Derived.Lib.SliceRun
set_option linter.unusedVariables false
set_option linter.unusedSimpArgs false
set_option linter.defProp false
set_option linter.deprecated false
namespace Go.AM
theorem jm.FF{α:Type}(c:jm α)(l:List α)(k n:Nat)(h:k+n<=l.length):c.list n (ou k (c.fn l))=(l.drop k).take n:=by
 apply pO
 ·simp[jm.list];omega
 ·intro i h1 h2;have hi:i<n:=by simpa[jm.list] using h1
  simp[jm.list,ou,jm.fn,CZ,List.getD_eq_getElem?_getD,aj (by omega:k+i<l.length),c.inv]
theorem jm.FG{α:Type}(c:jm α)(l:List α){k n:Nat}:c.fits n (ou k (c.fn l)):=λi _=>by simp[ou,jm.fn,CZ,c.inv]
abbrev dR(p x:Bs):D:=.e (.one (.c (.rp [.str p,.str x])))
namespace R1
open Go.Proofs
variable {X:Cx Tryz.prog}
def under(p q:Bs):Bool:=iq p (q++[47])
theorem FH(a:di)(p x:Bs)(h:a.1.length<=4000000):Ev X 137 [dP a,dR p x] [] (dB (under p a.1)) []:=by
 refine Ev.body Tryz.func137 rfl rfl rfl λb=>?_
 refine af Jw [] 100 rfl ?_ (AK.au rfl ?_)
 ·simp[aa];omega
 ·simp[aa,under]
def Lv:bH:=λargs σ=>match args,σ with
 |[.e (.agg [.c (.str a0),.c (.str a1)]),.e (.one (.c (.rp [.str p,.str x])))],[]=>some (dB (under p a0),[],[a0.length<=4000000/\a1=a1/\x=x])
 |_,_=>none
theorem t137:bU X 137 Lv:=by
 intro args σ res σ' obs h a;unfold Lv at h;split at h
 ·rename_i c b p x
  cases h;exact FH (c,b) p x a.1
 ·cases h
def Oa:List (Nat×bH):=(137,Lv)::N9
theorem tF:aO X Oa:=aO.cons t137 (Jw)
abbrev FI(p x:Bs):D:=.e (.one (.c (.fn (.func 137) [] [.rp [.str p,.str x]])))
def oM(t:List di)(p:Bs):Int:=match t.findIdx? (λf=>under p f.1) with|some i=>i|none=>-1
theorem Ic{t:List di}{p:Bs}{i:Nat}(hi:i<t.length)(h:under p (eh t i)=true)(a:∀ j,j<i->under p (eh t j)=false):oM t p=i:=by
 have:t.findIdx? (λf=>under p f.1)=some i:=by
  rw[tP];refine⟨hi,?_,λj b=>?_⟩
  ·rw[fileAt hi];exact h
  ·rw[fileAt (by omega:j<t.length)];simp[a j b]
 rw[oM,this]
theorem tG{t:List di}{p:Bs}(a:∀ j,j<t.length->under p (eh t j)=false):oM t p=-1:=by
 have:t.findIdx? (λf=>under p f.1)=none:=by
  rw[mQ];intro f c;obtain⟨j,b,rfl⟩:=dH c;rw[fileAt b];exact a j b
 rw[oM,this]
theorem Ie(t:List di)(p x:Bs)(e:∀ j,j<t.length->(eh t j).length<=4000000):Ev X 182 [cF.sl t,FI p x] [] (dI (oM t p)) []:=by
 refine Ev.body Tryz.func182 rfl rfl rfl λf=>?_
 have d:=f.sl 0 rfl;refine af tF [] 100 rfl ab ?_;refine AK.eg (λi=>i<=t.length/\∀ j,j<i->under p (eh t j)=false) (λi:Nat=>[(0,cF.sl t),(1,FI p x),(7,dI t.length),(8,dI i)]) (λ_=>[]) (λi=>t.length-i) 0 rfl ?_ rfl ab ⟨by omega,by omega⟩ ?_
 ·simp[aa.cat,aa,ay.same]
 rintro i ⟨hi,a⟩
 by_cases h:i<t.length
 ·have g:=e i h;cases c:under p (eh t i) with
  |true =>
   refine af tF [(9,true),(16,true)] 100 rfl ?_ (AK.dW (aW.zero rfl ?_))
   ·simp[-List.getD_eq_getElem?_getD,aa,h,gy,c];omega
   ·simp[aa,Ic h c a]
  |false =>
   refine af tF [(9,true),(16,false)] 100 rfl ?_ (AK.cR (i+1) rfl ?_ rfl ab ?_ ?_)
   ·simp[-List.getD_eq_getElem?_getD,aa,h,gy,c,aB];omega
   ·simp[aa.cat,aa,ay.same]
   ·refine⟨by omega,λj b=>?_⟩
    rcases dG.1 b with b|rfl
    ·exact a j b
    ·exact c
   ·omega
 ·refine af tF [(9,false)] 100 rfl (by simp[aa];omega) (AK.leave rfl rfl ?_)
  refine af tF [] 100 rfl ab (AK.au rfl ?_);simp[aa,tG (λj b=>a j (by omega))]
def vq(t:List di):Prop:=∀ j,j<t.length->(eh t j).length<=4000000
def Lw:bH:=λargs σ=>match args,σ with
 |[d,.e (.one (.c (.fn (.func 137) [] [.rp [.str p,.str x]])))],[]=>match jL 2 d with
  |none=>none
  |some (n,es)=>some (dI (oM (cF.list n es) p),[],[cF.fits n es,vq (cF.list n es),x=x])
 |_,_=>none
theorem t182:bU X 182 Lw:=by
 intro args σ res σ' obs h a;unfold Lw at h;split at h
 ·rename_i d p x
  split at h
  ·cases h
  rename_i n es hd
  cases h;exact(Ie _ p x a.2.1).args (λ_ vs=>bZ.imp (λ_=>cF.jf hd a.1) (bZ.imp (λ_ r=>r) (λ_ r=>r)) vs)
 ·cases h
def Ob:List (Nat×bH):=(182,Lw)::Oa
theorem Jx:aO X Ob:=aO.cons t182 (tF)
theorem Ig(t:List di)(p x:Bs)(a:vq t):Ev X 136 [cF.sl t,FI p x] [] (dB (decide (0<=oM t p))) []:=by
 refine Ev.body Tryz.func136 rfl rfl rfl λb=>?_
 refine af Jx [] 100 rfl ?_ (AK.au rfl ?_)
 ·simp[aa,cF.ae,cF.list_fn,a]
 ·simp[aa,cF.list_fn]
def Lx:bH:=λargs σ=>match args,σ with
 |[d,.e (.one (.c (.fn (.func 137) [] [.rp [.str p,.str x]])))],[]=>match jL 2 d with
  |none=>none
  |some (n,es)=>some (dB (decide (0<=oM (cF.list n es) p)),[],[cF.fits n es,vq (cF.list n es),x=x])
 |_,_=>none
theorem t136:bU X 136 Lx:=by
 intro args σ res σ' obs h a;unfold Lx at h;split at h
 ·rename_i d p x
  split at h
  ·cases h
  rename_i n es hd
  cases h;exact(Ig _ p x a.2.1).args (λ_ vs=>bZ.imp (λ_=>cF.jf hd a.1) (bZ.imp (λ_ r=>r) (λ_ r=>r)) vs)
 ·cases h
def Rq:List (Nat×bH):=(136,Lx)::Ob
theorem mN:aO X Rq:=aO.cons t136 (Jx)
def fN(t:List di)(i:Nat):Bool :=
 cX (eh t i)&&dm (HT t i)&&(i==0||!(Op.bytesLess (eh t i) (eh t (i-1))||eh t i==eh t (i-1)))&&(List.range i).all λj=>!under (eh t i) (eh t j)
def lg(t:List di):Bool:=(List.range t.length).all (fN t)&&decide (t.length<=6)
theorem g6{t:List di}{i:Nat}(hi:i<t.length)(h:fN t i=false):lg t=false:=by
 cases a:lg t with
 |false=>rfl
 |true =>
  simp only[lg,bF] at a;rw[ba.1 a.1 i hi] at h;cases h
theorem o8{s:Bs}(h:cX s=true):s.length<=3:=by
 simp only[cX,bh,bF,kL,aD,iM] at h;obtain⟨⟨⟨d,_⟩,_⟩,a⟩:=h;have c:=iH s 47
 change fh s<s.length∨fh s=-1 at c
 by_cases b:0<=fh s
 ·simp only[fZ,b,aV,List.length_take] at d;rcases a with a|a
  ·simp[gE,b] at a
  ·have:=a.1.1;simp only[jN,b,aV,kI] at this;omega
 ·simp only[fZ,b,aM] at d;omega
theorem zi{t:List di}{p:Bs}{i:Nat}(hi:i<=t.length):decide (0<=oM (t.take i) p)=!(List.range i).all λj=>!under p (eh t j):=by
 have e:∀ j,j<i->eh (t.take i) j=eh t j:=by
  intro j a;simp[eh,List.getD_eq_getElem?_getD,a]
 cases l:(List.range i).all λj=>!under p (eh t j) with
 |true =>
  have:=ba.1 l;rw[tG (λj a=>by
   have c:j<i:=by simp at a;omega
   rw[e j c];simpa using this j c)]
  simp
 |false =>
  have d:∃ j,j<i/\under p (eh t j)=true:=by
   cases Classical.em (∃ j,j<i/\under p (eh t j)=true) with
   |inl h=>exact h
   |inr h =>
    have:(List.range i).all (λj=>!under p (eh t j))=true:=ba.2 (λj a=>by
     cases g:under p (eh t j) with
     |false=>rfl
     |true=>exact absurd ⟨j,a,g⟩ h)
    rw[l] at this;cases this
  have:∃ k:Nat,oM (t.take i) p=k:=by
   unfold oM;cases m:(t.take i).findIdx? (λf=>under p f.1) with
   |some k=>exact⟨k,rfl⟩
   |none =>
    obtain⟨j,a,g⟩:=d;rw[mQ] at m;have b:j<(t.take i).length:=by simp;omega
    have:=m _ (gF b);rw[fileAt b] at this;simp only at this;rw[e j a,g] at this;cases this
  obtain⟨k,n⟩:=this;rw[n];simp
theorem yS(t:List di):Ev X 97 [cF.sl t] [] (dB (lg t)) []:=by
 refine Ev.body Tryz.func97 rfl rfl rfl λz=>?_
 have y:=z.sl 0 rfl;refine af mN [] 100 rfl ab ?_;refine AK.bY 0 (λi=>i<=t.length/\∀ j,j<i->fN t j=true) (λi:Nat=>[(0,cF.sl t),(5,cF.sl t),(6,dI t.length),(7,dI i)]) (λ_=>[]) (λi=>t.length-i) 0 rfl ?_ rfl ab rfl ⟨by omega,by omega⟩ ?_
 ·simp[aa.cat,aa,ay.same]
 rintro i ⟨hi,b⟩
 by_cases h:i<t.length
 ·cases n:cX (eh t i) with
  |false =>
   refine af mN [(8,true),(14,false)] 200 rfl ?_ (AK.cV (aW.zero rfl ?_))
   ·simp[-List.getD_eq_getElem?_getD,aa,h,gy,n]
   ·simp[aa,g6 h (by simp[fN,n])]
  |true =>
   cases o:dm (HT t i) with
   |false =>
    refine af mN [(8,true),(14,true),(19,false)] 200 rfl ?_ (AK.cV (aW.zero rfl ?_))
    ·simp[-List.getD_eq_getElem?_getD,aa,h,gy,l4,n,o]
    ·simp[aa,g6 h (by simp[fN,o])]
   |true =>
    have q:vq (t.take i):=by
     intro j g;simp only[List.length_take] at g;have e:eh (t.take i) j=eh t j:=by simp[eh,List.getD_eq_getElem?_getD,(by omega:j<i)]
     rw[e];have:=b j (by omega)
     simp only[fN,bF] at this;have:=o8 this.1.1.1;omega
    have d:cF.list ((i:Int).toNat-0) (ou 0 (cF.fn t))=t.take i:=by rw[cF.FF t 0 _ (by simp;omega)];simp
    cases k:(i==0||!(Op.bytesLess (eh t i) (eh t (i-1))||eh t i==eh t (i-1))) with
    |false =>
     have a:fN t i=false:=by simp only[fN,k];simp
     have r:i≠0:=by rintro rfl;simp at k
     have u:(Op.bytesLess (eh t i) (eh t (i-1))||eh t i==eh t (i-1))=true:=by
      simp only[Bool.or_eq_false_iff,Bool.not_eq_false'] at k;exact k.2
     have l:aB .i64 ((i:Int)-1):=by simp only[aB];omega
     have v:((i:Int)-1).toNat=i-1:=by omega
     refine af mN [(8,true),(14,true),(19,true),(24,true),(34,true)] 200 rfl ?_ (AK.cV (aW.zero rfl ?_))
     ·simp only[aa,gy,l4,az,v,u,n,o,aD,l];simp;omega
     ·simp[aa,g6 h a]
    |true =>
     have a:fN t i=(List.range i).all λj=>!under (eh t i) (eh t j):=by simp only[fN,k,n,o];simp
     apply AK.join [(0,cF.sl t),(3,dI i),(5,cF.sl t),(6,dI t.length),(7,dI i),(4,.e (.one (.ptr 0 0)))] [.cells 148 [.c (.str (eh t i)),.c (.str (HT t i))]]
     ·intro x
      by_cases r:i=0
      ·refine af mN [(8,true),(14,true),(19,true),(24,false),(1000006,true)] 200 rfl ?_ (x _ _ rfl ?_)
       ·simp only[aa,gy,l4,az,n,o,aD,a9];simp;omega
       ·simp[aa.cat,aa,ay.same]
      ·have u:(Op.bytesLess (eh t i) (eh t (i-1))||eh t i==eh t (i-1))=false:=by
        simp only[kL,iM,gf] at k;exact k.resolve_left r
       have l:aB .i64 ((i:Int)-1):=by simp only[aB];omega
       have v:((i:Int)-1).toNat=i-1:=by omega
       refine af mN [(8,true),(14,true),(19,true),(24,true),(34,false),(1000006,true)] 200 rfl ?_ (x _ _ rfl ?_)
       ·simp only[aa,gy,l4,az,v,u,n,o,aD,l];simp;omega
       ·simp[aa.cat,aa,ay.same]
     ·refine AK.freeze 4 0 rfl rfl rfl ?_;have s:=zi (t:=t) (p:=eh t i) (i:=i) hi;have f:cF.fits ((i:Int).toNat-0) (ou 0 (cF.fn t)):=cF.FG t;cases w:(List.range i).all λj=>!under (eh t i) (eh t j) with
      |false =>
       rw[w] at s a;refine af mN [(41,true)] 200 rfl ?_ (AK.cV (aW.zero rfl ?_))
       ·simp only[aa,cA];have m:decide (0<=oM (cF.list ((i:Int).toNat-0) (ou 0 (cF.fn t))) (eh t i))=true:=by rw[d];exact s
        exact⟨f,by rw[d];exact q,ab,m,by omega,by omega⟩
       ·simp[aa,g6 h a]
      |true =>
       rw[w] at s a;refine af mN [(41,false)] 200 rfl ?_ (AK.aA (i+1) rfl ?_ rfl rfl rfl ?_ rfl ?_ ?_)
       ·simp only[aa,cA];have m:decide (0<=oM (cF.list ((i:Int).toNat-0) (ou 0 (cF.fn t))) (eh t i))=false:=by rw[d];exact s
        exact⟨by simp only[aB];omega,f,by rw[d];exact q,ab,m,by omega,by omega⟩
       ·simp[aa.cat,aa,ay.same]
       ·trivial
       ·refine⟨by omega,λj g=>?_⟩
        rcases dG.1 g with g|rfl
        ·exact b j g
        ·exact a
       ·omega
 ·have:i=t.length:=by omega
  subst this;refine af mN [(8,false)] 100 rfl (by simp[aa]) (AK.leaveD rfl rfl ?_)
  refine af mN [] 100 rfl ab (AK.au rfl ?_);simp only[aa,lg];rw[ba.2 (λj g=>b j g)]
  simp;omega
end R1
end Go.AM
namespace Go.AM.R1
open Go.Proofs
variable {X:Cx Tryz.prog}
def iE(t:Bs):List Bs:=if dm t then pieces t else []
def Jh(t:Bs)(f:Nat)(acc:List Bs):Prop:=∃ k,eT t t.length 0=acc++eT t k f/\t.length<=f+k/\acc.length<=f
theorem Ax:bU X 132 (fY aS (λs=>dB (dm s)) λ_=>[]):=.jo λs _=>rm s
def EG:bH:=λargs σ=>match args,σ with
 |[.e (.one (.c (.str t)))],[]=>some (.e (.one (.c (Jg t))),[],[])
 |_,_=>none
theorem KE:bU X 179 EG:=by
 intro args σ res σ' obs h a;unfold EG at h;split at h
 ·cases h;exact HF _
 ·cases h
theorem BL(t:Bs):Ev X 134 [dS t] [] (cS.sl (iE t)) []:=by
 refine(fb.yu (ι:=Unit) (σ':=λ_=>[]) (res:=λ_=>cS.sl (iE t)) Tryz.func134 rfl rfl rfl λq=>?_).Df
 have l:aO X [(132,fY aS (λs=>dB (dm s)) λ_=>[])]:=.cons Ax .nil
 refine mF.seq (AW.top (AK.of_code ?_));refine af l [] 100 rfl ab ?_;refine mF.seq (AW.top (AK.of_code ?_));cases d:dm t with
 |false =>
  refine af l [(8,true)] 100 rfl ?_ (AK.ret ⟨(),aW.zero rfl ?_⟩)
  ·simp[aa,d]
  ·simp[aa,aa.cat,iE,d]
 |true =>
  have g:=d;simp only[dm,bF,aD] at g;refine af l [(8,false)] 100 rfl ?_ ?_
  ·simp[aa,d]
  refine mF.seq (AW.top (AK.of_code ?_));refine af l [] 100 rfl ab ?_;refine mF.seq (mF.seq (AW.top (AK.of_code (AK.A6 1 0 9 1 (cS.fn []) rfl rfl ?_))));refine af (.cons KE .nil) [] 100 rfl ab ?_;refine mF.block ?_;refine mF.rangeFunc (capD:=jE [.rp [.str t]]) (bg.callee rfl) (BK (T:=List Bs) t g.2 (by omega) (λ_=>.cells 9 [.c (.str t)]) (λacc=>.cells 144 [.vec 2 1 acc.length (cS.fn acc)]) (λacc=>.vec 9 1 acc.length (cS.fn acc)) (Jh t) [] ?_ (λt=>⟨by simp,by simp,by simp⟩) ?_) (λi=>⟨rfl,by simp⟩) λi=>⟨.normal,rfl,?_⟩
  ·exact⟨t.length,by simp,by omega,by simp⟩
  ·rintro f acc hf hR;have b:=lZ t f hf;refine Yields.intro (j:=none) rfl rfl rfl rfl (AK.of_code ?_);refine bw rfl ab ?_;refine⟨rfl,rfl,AK.of_code ?_⟩;refine bw rfl ?_ ?_
   ·obtain⟨k,_,_,p⟩:=hR;have u:=b.1;have r:=b.2.1;refine⟨rfl,rfl,?_,Int.natCast_nonneg _,Int.ofNat_le.2 (Nat.le_of_lt u),Int.ofNat_le.2 r⟩;show (acc.length+1)*16<=_;omega
   have n:Jh t (cutAt t f) (acc++[(t.drop f).take (cutAt t f-f)]):=by
    obtain⟨k,m,v,p⟩:=hR;obtain⟨k',rfl⟩:∃ k',k=k'+1:=⟨k-1,by omega⟩
    refine⟨k',?_,by omega,by simp only[bc,fw];omega⟩
    rw[m];simp only[eT];rw[aq hf];simp
   refine⟨rfl,rfl,⟨_,n⟩,jI rfl ?_⟩;have e:nH t (some (f:Int)) (some (cutAt t f:Int))=(t.drop f).take (cutAt t f-f):=by simp[nH,List.drop_take]
   have o:ay (acc.length+1) (cz acc.length (cS.fn acc) λi=>[[C.str (nH t (some (f:Int)) (some (cutAt t f:Int)))]].getD i []) (cS.fn (acc++[(t.drop f).take (cutAt t f-f)])):=by
    rw[e];exact jm.eU cS acc _
   have a:acc.length+1=(acc++[(t.drop f).take (cutAt t f-f)]).length:=by simp
   refine aa.cat.2 ⟨by simp[aa,aa.cat],aa.cat.2 ⟨aa.cat.2 ⟨⟨a,o⟩,ab⟩,aa.cat.2 ⟨⟨a,o⟩,aa.cat.2 ⟨rfl,ab⟩⟩⟩⟩
  ·obtain⟨acc,k,m,v,p⟩:=i;have h:eT t k t.length=[]:=by cases k <;> simp[eT]
   rw[h,gH] at m;have e:iE t=acc:=by simp only[iE,d,aV,pieces,m]
   rw[e];show mF X _ _ _ _ _;refine AW.top (AK.of_code ?_);refine bw rfl ab ?_;refine AK.ret ⟨(),aW.zero rfl ?_⟩;exact⟨rfl,ay.same⟩
theorem HG:bU X 134 (fY aS (λs=>cS.sl (iE s)) λ_=>[]):=.jo λs _=>BL s
theorem Nu:bU X 131 (ga (aL cS) aS (λl _=>dS l.flatten) λl s=>[s=[],l.flatten.length<=140737488355328]):=.gX λl s h=>by
 obtain⟨rfl,h⟩:=h;exact Hz l h
def HH:bH:=ga (aL cS) (aL cS) (λa b=>dB (a==b)) λ_ _=>[]
theorem Qo:bU X 133 HH:=.gX λa b _=>Kv a b
theorem yR(l:List Bs)(h:l.flatten.length<=140737488355328):Ev X 96 [cS.sl l] [] (u6 (dY l)) []:=by
 refine Ev.body Tryz.func96 rfl rfl rfl λd=>?_
 have c:aO X [(131,ga (aL cS) aS (λl _=>dS l.flatten) λl s=>[s=[],l.flatten.length<=140737488355328]),(132,fY aS (λs=>dB (dm s)) λ_=>[]),(133,HH),(134,fY aS (λs=>cS.sl (iE s)) λ_=>[])]:=.cons Nu (.cons Ax (.cons Qo (.cons HG .nil)))
 have el:cS.list l.length (cS.fn l)=l:=cS.list_fn l;cases a:dm l.flatten with
 |false =>
  refine af c [(8,false),(9,true),(16,true)] 100 rfl ?_ (AK.au rfl ?_)
  ·simp only[aa,el,a,cS.ae,eq_self,ai,ah];simp[h,-List.length_flatten]
  ·simp[aa,aa.cat,dY,a]
 |true =>
  cases b:(pieces l.flatten==l) with
  |false =>
   refine af c [(8,true),(9,false),(14,false),(16,true)] 100 rfl ?_ (AK.au rfl ?_)
   ·simp only[aa,el,cS.list_fn,a,cS.ae];simp[h,iE,a,b,-List.length_flatten]
   ·simp[aa,aa.cat,dY,b]
  |true =>
   refine af c [(8,true),(9,false),(14,true),(16,false)] 100 rfl ?_ (AK.au rfl ?_)
   ·simp only[aa,el,cS.list_fn,a,cS.ae];simp[h,iE,a,b,-List.length_flatten]
   ·simp[aa,aa.cat,dY,a,b,el]
end Go.AM.R1
namespace Go.AM.R1
open Go.Proofs Go.Conc Go.Conc.Lib Go.ConcR.Gen
open Go.ConcN (WgLive PayAt Has RW AtR0)
open Go.ConcN.Gen
open Go.ConcR (KK WgAt stA smA rd wr mk Payload DC0)
theorem EK:EH=#[{ dst:=none,op:=.defer { callee:=.value (.func 128),args:=#[.tmp 0],argTypes:=#[197] },type:=0,pos:= "l12_snap.go:81",after:=#[],guard:=none }]:=by kernel_rfl
def bW(a:Value):Frame:={ baseD 127 with defers:=[dcall 128 #[a]] }
abbrev tW(v0 v1 v2 v3 v4 v5:Value):Array Value:=#[v0,v1,v2,v3,v4,v5,undef,undef,undef,undef,undef,undef,undef]
theorem KG(v0 v1 v2 v3 v4 v5:Value)(w:World):Goes Tryz.prog false (λ_ _=>True) DC0 (λg _=>g=G ((bW v0).aT ⟨tW v0 v1 v2 v3 v4 v5,[]⟩ [.code (.region 1 EI true)]) [pA]) 8 (born Tryz.prog (rq #[v0,v1,v2,v3,v4,v5])) w:=by
 have b:True:=ab;have a:True->True->True:=λ_ _=>trivial
 refine Goes.step rfl (λw1 h1=>?_)
 rw[BR];simp only[goes_go];refine⟨⟨rfl,rfl⟩,?_⟩;clear h1;rw[EK]
 u_c stepG_seq a b
 u_reg a b
 u_defer a b
 u_c stepG_region_end a b
 exact Goes.stop λ_ _=>rfl
theorem Qp(T:Array Value):QuitsD Tryz.prog 2 0 (G { (baseD 127).at ⟨T,[]⟩ [] with mode:=.returning } [pA]):=by
 have a:Tryz.f127.results=#[]:=by kernel_rfl
 refine QuitsD.ctl (g':=G pA []) rfl (λw=>?_) ?_
 ·simp[G,stepG,unwind,doReturn,results,Frame.at,baseD,pA,Tryz.func127,a,seen,GStep.after,goexitEntry]
 refine QuitsD.ctl (g':={ G pA [] with status:=.finished }) rfl (λw=>?_) ⟨rfl,rfl⟩
 simp[G,stepG,unwind,pA,goexitEntry,Frame.catches];rfl
section
variable {Y:Lay}{n:Nat}{val:Nat->Nat->Value}
theorem tailW(x:Nat)(b:Y.kc=2)(T:Array Value)(w:World)(a:WgLive 197 Y.Wg w/\Has Y.C (Y.kc*x+1-1) (val x 0) w) :
  ∃ m,Goes Tryz.prog false (RW 197 Y.Wg Y.C (2*n) 0 (Y.kc*x+1-1)) DC0 (AtR0 Tryz.prog 197 Y.Wg Y.C (2*n) 0 (Y.kc*x+1) (val x 0)) m (G ((bW (.pointer (some ⟨Y.Wg,0,none⟩))).aT ⟨T,[]⟩ [.inRegion pz.toArray []]) [pA]) w:=by
 refine⟨26,?_⟩;have e:(bW (.pointer (some ⟨Y.Wg,0,none⟩))).aT ⟨T,[]⟩ [.inRegion pz.toArray []]=(baseD 127).at ⟨T,[dcall 128 #[.pointer (some ⟨Y.Wg,0,none⟩)]]⟩ [.inRegion pz.toArray []]:=rfl;rw[e]
 u_c stepG_region_end kn_rely a
 u_c stepG_end kn_rely a
 u_in kn_rely a
 rw[stepG_unwind_enter (c:=body_done Ji) rfl wN.f_done (by kernel_rfl) (by kernel_rfl)]
 simp only[goes_go];refine⟨by u_nil,?_⟩
 have d:=Ny (P:=Tryz.prog) (L:=Ji) (Wg:=Y.Wg) (C:=Y.C) (n:=2*n) (Low:=0) (x:=Y.kc*x+1) (val:=val x 0) (c:={ (baseD 127).at ⟨T,[]⟩ [] with mode:=.returning }) (cs:=[pA]) wN rfl (Qp T) _ a;exact d
theorem rd_str{M:Mem}{v:Value}{l:Bs}(h:Rd M v (.str l)):v=.string ⟨l.toArray⟩:=by
 cases h with
 |str h1 h2=>rw[<-h1]
theorem rd_bool{M:Mem}{v:Value}{b:Bool}(h:Rd M v (.bool b)):v=.bool b:=by cases h;rfl
def LX:Oper:=oW none (.store 200 (.tmp 12) (.tmp 11)) 0 #[⟨6,.data⟩,⟨5,.data⟩,⟨5,.chain⟩,⟨0,.phase⟩,⟨1,.phase⟩,⟨2,.phase⟩,⟨3,.phase⟩,⟨4,.phase⟩,⟨5,.phase⟩]
set_option maxHeartbeats 1000000 in
theorem Nz{x:Nat}(hx:x<n)(u:Y.kc=2){k:Int}{ps:List aR}{N:Int}(K:val x 0=.string ⟨((b9 k ps N).getD []).toArray⟩)(I:val x 1=.bool (b9 k ps N).isSome){s:St}{T:Array Value}
  (w:b5 [] s (T.getD 12 undef) (xW k ps N n x Y.C 6)) (r:b5 [] s (T.getD 11 undef) (OM (b9 k ps N))) :
  DF Tryz.prog 197 Y (2*n) val x (G ((bW (.pointer (some ⟨Y.Wg,0,none⟩))).aT ⟨T,[]⟩ [.inRegion pz.toArray [7]]) [pA]) s:=by
 have w:T.getD 12 undef=.pointer (some ⟨Y.C,x*2,none⟩):=Rd.ft w;have r:T.getD 11 undef=.agg #[val x 0,val x 1]:=by
  obtain⟨vs,h1,g⟩:=r
  match vs,g with
  |[],g=>exact g.elim
  |[_],g=>exact g.2.elim
  |_::_::_::_,g=>exact g.2.2.elim
  |[u0,u1],g =>
   rw[h1,rd_str g.1,rd_bool g.2.1,K,I]
 refine⟨rfl,λw1 hr DM EL=>?_⟩
 obtain⟨cs,c,R⟩:=DM;have A:Y.kc*x=x*2:=by rw[u];omega
 have J:∀ v∈[val x 0,val x 1],v.oneCell'=true:=by
  intro v V;simp only[dy,pM,or_false] at V;rcases V with rfl|rfl
  ·rw[K];rfl
  ·rw[I];rfl
 have d:x*2+0+[val x 0,val x 1].length<=cs.size:=by simp;omega
 have p:=run_storeCells_at Tryz.prog Y.C (x*2) 200 [val x 0,val x 1] 0 cs w1 c d J;simp only[ey,fa,kK,aw] at p;generalize l:(cs.toList.take (x*2)++[val x 0,val x 1]++cs.toList.drop (x*2+2)).toArray=new at p;have O:new.size=cs.size:=by
  rw[<-l];simp;simp at d;omega
 have z:=setRow_heap w1 Y.C cs new 200 (0,0) c;have f:∀ o,(w1.setRow Y.C new).cell? ⟨Y.C,o,none⟩=new[o]?:=λo=>cell_setRow_same w1 Y.C o cs new 200 (0,0) c
 have t:∀ o,w1.cell? ⟨Y.C,o,none⟩=cs[o]?:=λo=>by simp[World.cell?,c]
 have F:∀ i,i<2->new[x*2+i]?=some (val x i):=by
  intro i hi;rw[<-l];have Q:(cs.toList.take (x*2)).length=x*2:=by simp;simp at d;omega
  rw[c9];simp only[gb];rw[cj (by omega),Q]
  match i,hi with
  |0,_=>simp
  |1,_=>simp
 have E:∀ o,(o<x*2∨x*2+2<=o)->new[o]?=cs[o]?:=by
  intro o D;rw[<-l];have Q:(cs.toList.take (x*2)).length=x*2:=by simp;simp at d;omega
  rw[c9];simp only[gb];rcases D with D|D
  ·rw[bS (by omega),dx]
   simp[D]
  ·rw[cj (by omega),Q,cj (by simp;omega)]
   simp only[fa,kK,l6];rw[show x*2+2+(o-x*2-(0+1+1))=o by omega]
   simp
 have M:(Value.agg #[val x 0,val x 1]).cells=#[val x 0,val x 1]:=rfl;have L:(execOp (⟨T,[]⟩:Act).eval LX).run Tryz.prog w1=.ok .skip (w1.setRow Y.C new):=by
  have y:(⟨T,[]⟩:Act).eval (.tmp 12)=.pointer (some ⟨Y.C,x*2,none⟩):=w;have B:(⟨T,[]⟩:Act).eval (.tmp 11)=.agg #[val x 0,val x 1]:=r;simp[execOp,LX,oW,y,B,Instr.storeAt,Instr.sureAddr,storeVar,(tok 200 i200 rfl).run_sizeOf,i200,M,p]
 have m:∀ e∈(execOp (⟨T,[]⟩:Act).eval LX).events Tryz.prog w1 #[],∃ j,j<2/\e=A9 Y.C (x*2+j):=by
  intro W m;have y:(⟨T,[]⟩:Act).eval (.tmp 12)=.pointer (some ⟨Y.C,x*2,none⟩):=w;have B:(⟨T,[]⟩:Act).eval (.tmp 11)=.agg #[val x 0,val x 1]:=r;have e:execOp (⟨T,[]⟩:Act).eval LX=(do storeVar 200 ⟨Y.C,x*2,none⟩ (.agg #[val x 0,val x 1]);pure .skip):=by simp[execOp,LX,oW,y,B,Instr.storeAt,Instr.sureAddr]
  rw[e] at m;have H:W∈(storeCells ⟨Y.C,x*2,none⟩ [val x 0,val x 1]).events Tryz.prog w1 #[]:=by
   simp only[storeVar,Sem.events_bind,(tok 200 i200 rfl).run_sizeOf,i200,M,Result.evThen_ok,events_sizeOf,cf,aM,aU,bj,Sem.events_pure] at m;simpa[p] using m
  rcases dL [val x 0,val x 1] 0 cs w1 #[] c d J W H with P|⟨j,_,S,rfl⟩
  ·simp at P
  ·exact⟨j,by simpa using S,rfl⟩
 have q:WgLive 197 Y.Wg (w1.setRow Y.C new):=by
  obtain⟨st,U,h⟩:=EL;refine⟨st,U,?_⟩;show (w1.setRow Y.C new).heap[Y.Wg]?=_;rw[setRow_other w1 Y.C Y.Wg new ?_]
  ·exact h
  ·intro e;have g:w1.heap[Y.Wg]?=some (Go.ConcR.wgBlock 197 st U):=h;rw[e,c] at g;simp[Go.ConcR.wgBlock] at g;exact absurd g.2 (by decide)
 refine⟨_,w1.setRow Y.C new,_,zO (b:=bW (.pointer (some ⟨Y.Wg,0,none⟩))) (a:=⟨T,[]⟩) (k:=[]) (ops:=pz.toArray) (i:=7) (rest:=[]) (o:=LX) rfl rfl (by simp[bW,baseD]) L,?_,?_,?_⟩
 ·refine⟨rfl,rfl,rfl,by simp,λb Z=>setRow_other w1 Y.C b new Z,⟨new,z,by rw[O,R]⟩,λo D=>?_,λi hi=>?_⟩
  ·rw[f,t];rw[A,u] at D;exact E o D
  ·rw[u] at hi;rw[f,A];exact F i hi
 ·intro e X;obtain⟨j,S,rfl⟩:=m e (Go.Conc.mem_seen X);exact⟨x*2+j,rfl,by omega,by omega⟩
 ·exact tailW x u T _ ⟨q,by show (w1.setRow Y.C new).cell? _=_;rw[f,lz,A];exact F 0 (by omega)⟩
theorem worker{k:Int}(i:bU (Cx.work Tryz.prog) 129 (jg k)){x:Nat}(q:x<n)(l:Y.kc=2){ps:List aR}{d:Int}(j:val x 0=.string ⟨((b9 k ps d).getD []).toArray⟩)(f:val x 1=.bool (b9 k ps d).isSome)
  {s:St} (z:ag [] s) (F:s.β=[]) {v1 v2 v3 v4 v5:Value} (u:Rd s.M v1 (.rp [.int .i64 k])) (o:Rd s.M v2 (.rp [.sl false 2 ps.length (cP.fn ps)])) (m:Rd s.M v3 (.rp [.int .i64 d]))
  (v:Rd s.M v4 (.rp [.val (.slice (some ⟨Y.C,0,none⟩) n n)])) (p:Rd s.M v5 (.rp [.int .i64 x])) :
  cB (Cx.work Tryz.prog) E0 (DF Tryz.prog 197 Y (2*n) val x) (born Tryz.prog (rq #[.pointer (some ⟨Y.Wg,0,none⟩),v1,v2,v3,v4,v5])) s:=by
 refine cB.goes (X:=Cx.work Tryz.prog) (R:=λ_ _=>True) (D:=DC0) (Stop:=λg _=>g=G ((bW (.pointer (some ⟨Y.Wg,0,none⟩))).aT ⟨tW (.pointer (some ⟨Y.Wg,0,none⟩)) v1 v2 v3 v4 v5,[]⟩ [.code (.region 1 EI true)]) [pA])
  (λb=>ag [] b/\b.M=s.M) (λb s2 h r=>⟨h.1.rely r,r.M.trans h.2⟩) (λ_ _ _ _=>trivial) ?_ (λb h=>aX.qJ h.1.mem) ?_ 8 _ s ⟨z,rfl⟩ (KG _ _ _ _ _ _ _)
 ·rintro b es h w' ⟨rfl,rfl⟩;exact⟨rfl,.inl (.quiet h.1)⟩
 ·rintro g b ⟨e,B⟩ rfl;rw[HJ];refine db.Tt (λ_ _ _ h=>h) ?_
  refine(Nx i ps d n x Y.C q (.pointer (some ⟨Y.Wg,0,none⟩))).region (by kernel_rfl) (by simp[bW,baseD]) ⟨by simp[tW],⟨[],ab⟩,λt=>?_⟩ rfl e λs2 a y c A E st=>.stop ?_
  ·rw[<-B] at u o m v p
   match t with
   |0=>exact Rd.val rfl
   |1=>exact u
   |2=>exact o
   |3=>exact m
   |4=>exact v
   |5=>exact p
   |t+6=>trivial
  ·obtain⟨T,w⟩:=a;obtain rfl:w=[]:=A;exact Nz q l j f (c 12) (c 11)
end
end Go.AM.R1
namespace Go.AM.R1
open Go.Proofs Go.Conc Go.Conc.Lib
open Go.ConcN (WgLive PayAt Has RW AtR0)
open Go.ConcR (KK WgAt stA smA rd wr mk Payload DC0)
def ru:Code->Code|.seq a _=>a|c=>c
def ia:Code->Code|.seq _ a=>a|c=>c
def NA:Code->Code|.block _ a=>a|c=>c
def Qq:Code->Code|.loop a=>a|c=>c
def KH:Code->Array Oper|.region _ o _=>o|_=>#[]
noncomputable def yU:Code:=(Tryz.f95.body).getD .skip
noncomputable def fg:Code:=Qq (NA (ia (ru (ia (ia (ia yU))))))
noncomputable def Sm:Code:=ru fg
noncomputable def KI:Code:=NA (ru (ia (ia fg)))
noncomputable def Sn:Code:=ru KI
noncomputable def va:Array Oper:=KH (ru (ia KI))
noncomputable def sn:Array Oper:=KH (ia (ia KI))
noncomputable def GD:Code:=ia (ia (ia fg))
noncomputable def kA:Code:=ia (ia (ia (ia yU)))
noncomputable def sq:Array Oper:=KH (ru kA)
noncomputable def mL:Code:=ia kA
theorem wO:fg=.seq Sm (.seq (.cond (.tmp 21) .skip (.exit 0)) (.seq (.block 1 (.seq Sn (.seq (.region 6 va false) (.region 7 sn false)))) GD)):=by kernel_rfl
theorem EM:kA=.seq (.region 9 sq false) mL:=by kernel_rfl
def NQ(l:Fr)(σ1:List ak):Post:=λe φ σ=>e=.normal/\nT φ l/\σ=σ1
structure At (j:List ak)(s0:St)(φ:Fr)(σ:List ak)(a:Act)(s:St):Prop where
 fr:bg 45 σ s φ a
 hh:ag σ s
 st:bq j s0 σ s
section
variable {j:List ak}{s0:St}{φ l:Fr}{σ σ1:List ak}{a:Act}{s:St}
theorem At.rely(h:At j s0 φ σ a s){d:St}(c:aX s d):At j s0 φ σ a d:=⟨h.fr.rely c h.hh,h.hh.rely c,h.st.trans c.stepW⟩
structure GF (b:Nat)(s:St):Prop where
 own:¬s.own b
 β:∀ L∈s.β,b∉L.bs
 M:∀ o,s.M b o=none
 lt:b<s.w.heap.size
theorem GF.step{b:Nat}(h:GF b s0)(st:bq j s0 σ s):GF b s :=
 ⟨by rw[st.own];exact h.own,λL c f=>by
  rcases st.pT L c b f with h1|⟨d,e,h1⟩
  ·have:=h.lt;omega
  ·exact h.β d e h1,λo=>by rw[st.gJ b h.lt h.β];exact h.M o,bm h.lt st.size⟩
theorem At.apart{Wg:Nat}(d:GF Wg s0):Apart Wg (At j s0 φ σ a) :=
 ⟨λ_ _ h e=>h.rely e,λ_ h=>⟨σ,h.hh⟩,λ_ h=>let c:=d.step h.st;⟨c.own,c.β,c.M⟩⟩
variable {X:Cx Tryz.prog}{S:Goroutine->St->Prop}{b:Frame}{k:List Item}{cs:List Frame}
theorem At.ctl(h:At j s0 φ σ a s){g g':Goroutine}(e:g.status=.running)(d:∀ w,stepG Tryz.prog X.main g w=.go g' w #[])(kk:∀ c,At j s0 φ σ a c->db X S g' c):db X S g s :=
 .ctl h.hh e d λc h1=>kk c (h.rely h1)
theorem At.code(h:At j s0 φ σ a s)(m:b.kind≠.early){c:Code}(o:AW X 45 c (NQ l σ1) φ σ)(kk:∀ f g,At j s0 l σ1 f g->db X S (G (b.aT f k) cs) g):db X S (G (b.aT a (.code c::k)) cs) s:=by
 refine o s a h.fr h.hh b k cs S m ?_;rintro e φ' σ' s' a' ⟨rfl,hl,rfl⟩ n i d;exact kk a' s' ⟨n.le hl,i,h.st.trans d⟩
end
theorem db.live{Wg:Nat}{E:St->St->Array Event->Prop}{S:Goroutine->St->Prop}{g:Goroutine}{s:St}(h:db (Cx.lead Tryz.prog 197 Wg) S g s)(f:Clear (λb=>b=Wg) s)(hl:WgLive 197 Wg s.w) :
  cB (Cx.lead Tryz.prog 197 Wg) E (λg s=>S g s/\WgLive 197 Wg s.w) g s:=by
 induction h with
 |stop h=>exact⟨.leaf,h,hl⟩
 |@step g s t ns ne hr h1 h2 _ m =>
  refine .step hr λi c=>?_
  have n:=c.2 hl;have d:Clear (λb=>b=Wg) i:=⟨λb e=>by rw[c.1.own];exact f.own b e,λb e=>by rw[c.1.β];exact f.β b e,λb e o=>by rw[c.1.M];exact f.M b e o,λb e=>bm (f.lt b e) c.1.size⟩
  obtain⟨⟨σ,σ',hh,p,st⟩,q⟩:=h2 i c;refine⟨_,_,_,h1 i c,.inl ⟨⟨σ,σ',hh,p,st⟩,q⟩,m i c (d.step st) ?_⟩;obtain⟨x,y,r⟩:=n;exact⟨x,y,by show (ns i).w.heap[Wg]?=_;rw[st.ee Wg (d.lt Wg rfl) (d.β Wg rfl)];exact r⟩
 |ghost hg _ m=>exact .ghost hg (m (f.ghost hg) (by rw[hg.w];exact hl))
 |forget hx _ _ _=>exact hx.elim
 |r7 hj _ _=>exact hj.elim
theorem GF.clear{Wg:Nat}{s:St}(h:GF Wg s):Clear (λb=>b=Wg) s:=⟨λb e=>e▸h.own,λb e=>e▸h.β,λb e=>e▸h.M,λb e=>e▸h.lt⟩
section
variable (k:Int)(ps:List aR)(ns:List Int)(C Wg:Nat)
def j3(i:Nat):Fr:=[(3,.e (.one (.c (.rp [.int .i64 k])))),(4,.e (.one (.c (.rp [.sl false 2 ps.length (cP.fn ps)])))),(8,.e (.one (.c (.rp [.val (.slice (some ⟨C,0,none⟩) ns.length ns.length)])))),(9,.e (.one (.v (.pointer (some ⟨Wg,0,none⟩))))),
 (18,cI.sl ns),(19,dI ns.length),(20,dI i)]
variable {k ps ns C Wg}{X:Cx Tryz.prog}{σ:List ak}
theorem So{i:Nat}(hi:i<=ns.length):AW X 45 Sm (NQ ((21,dB (decide (i<ns.length)))::j3 k ps ns C Wg i) σ) (j3 k ps ns C Wg i) σ:=by
 refine AK.of_code ?_
 by_cases h:i<ns.length
 ·refine aF [(21,true)] 100 rfl ?_ ⟨rfl,cm rfl ?_,rfl⟩
  ·simp[aa];omega
  ·simp[aa.cat,aa,h,ay.same]
 ·refine aF [(21,false)] 100 rfl ?_ ⟨rfl,cm rfl ?_,rfl⟩
  ·simp[aa];omega
  ·simp[aa.cat,aa,h,ay.same]
abbrev d5:List ak:=[.dead,.dead,.dead,.dead,.dead]
theorem Uq{i:Nat}(hi:i<ns.length):AW X 45 Sn (NQ ((10,.e (.one (.ptr 5 0)))::(11,.e (.one (.ptr 6 0)))::j3 k ps ns C Wg i) [.dead,.dead,.dead,.dead,.dead,.cells 3 [.c (.int .i64 i)],.cells 3 [.c (.int .i64 (ns.getD i 0))]]) (j3 k ps ns C Wg i) d5:=by
 refine AK.of_code ?_;refine bw rfl ?_ ⟨rfl,cm rfl ?_,?_⟩
 ·simp[aa];omega
 ·simp[aa.cat,aa,ay.same]
 ·simp[cI]
theorem Ur{i:Nat}(hi:i<ns.length)(c:ns.length<=4000000):AW X 45 GD (NQ (j3 k ps ns C Wg (i+1)) d5) (j3 k ps ns C Wg i) d5:=by
 refine AK.of_code ?_;refine bw rfl ?_ ⟨rfl,cm rfl ?_,rfl⟩
 ·simp[aa,aB];omega
 ·simp[aa.cat,aa,ay.same]
variable {j:List ak}{s0:St}{S:Goroutine->St->Prop}{b:Frame}{kk:List Item}{cs:List Frame}
abbrev d7:List ak:=[.dead,.dead,.dead,.dead,.dead,.dead,.dead]
variable (k ps ns C Wg) in
abbrev m5(i:Nat):Fr:=(11,.e (.one (.c (.rp [.int .i64 (ns.getD i 0)]))))::(10,.e (.one (.c (.rp [.int .i64 i]))))::j3 k ps ns C Wg i
noncomputable abbrev oF(kk:List Item):List Item:=.code (.region 7 sn false)::.inBlock 1::.code GD::.inLoop fg::.inBlock 0::kk
theorem qf{P:Program}{main:Bool}{b:Frame}{a:Act}{k:List Item}{cs:List Frame}{w:World}{c x y:Code}(h:c=.seq x y):stepG P main (G (b.aT a (.code c::k)) cs) w=.go (G (b.aT a (.code x::.code y::k)) cs) w:=by
 subst h;exact kT
theorem toAdd{i:Nat}(hi:i<ns.length)(o:b.kind≠.early){a:Act}{s:St}(h:At j s0 (j3 k ps ns C Wg i) d5 a s)
  (K:∀ n m,At j s0 (m5 k ps ns C Wg i) d7 n m->db X S (G (b.aT n (.inRegion va [0]::oF kk)) cs) m) :
  db X S (G (b.aT a (.code fg::.inLoop fg::.inBlock 0::kk)) cs) s:=by
 refine h.ctl rfl (λw=>qf wO) λs h=>?_
 refine h.code o (So (Nat.le_of_lt hi)) λa s h=>?_
 refine h.ctl rfl (λw=>kT) λs h=>?_
 have p:a.eval (.tmp 21)=.bool true:=by
  have:=h.fr.slot 21;simp only[hi,decide_true] at this;exact rd_bool (eB this)
 refine h.ctl rfl (λw=>pU p) λs h=>?_
 refine h.ctl rfl (λw=>zM) λs h=>?_
 refine h.ctl rfl (λw=>kT) λs h=>?_
 refine h.ctl rfl (λw=>nt) λs h=>?_
 refine h.ctl rfl (λw=>kT) λs h=>?_
 have h:At j s0 (j3 k ps ns C Wg i) d5 a s:=⟨h.fr.le (cm rfl (by simp[aa.cat,aa,ay.same])),h.hh,h.st⟩
 refine h.code o (Uq hi) λa s h=>?_
 obtain⟨m,w1,r,d,f⟩:=bg.freeze 10 5 (E:=3) (cs:=[.c (.int .i64 i)]) (cc:=[.int .i64 i]) rfl rfl rfl h.fr h.hh;refine .ghost (.of h.hh d w1 (f.mG h.hh)) ?_;obtain⟨s2,w2,q,e,g⟩:=bg.freeze 11 6 (E:=3) (cs:=[.c (.int .i64 (ns.getD i 0))]) (cc:=[.int .i64 (ns.getD i 0)]) rfl rfl rfl r d;refine .ghost (.of d e w2 (g.mG d)) ?_;have h:At j s0 (m5 k ps ns C Wg i) d7 a s2:=⟨q.le (cm rfl (by simp[aa.cat,aa,ay.same])),e,h.st.trans ((f.mG h.hh).trans (g.mG d))⟩
 refine h.ctl rfl (λw=>kT) λs h=>?_
 refine h.ctl rfl (λw=>md) λs h=>?_
 exact K a s h
def o6:Oper:={ dst:=some 25,op:=.call { callee:=.value (.func 126),args:=#[.tmp 9,.const (.int .i64 1)],argTypes:=#[197,3] },type:=0,pos:= "l12_snap.go:79",after:=#[],guard:=none }
theorem AA:va=#[o6]:=by kernel_rfl
theorem EN{i:Nat}(m:b.kind≠.early){a:Act}{s:St}(h:At j s0 (m5 k ps ns C Wg i) d7 a s)
  (K:∀ c,At j s0 (m5 k ps ns C Wg i) d7 a c->db X S (G (Frame.enter Tryz.prog 126 #[.pointer (some ⟨Wg,0,none⟩),.int .i64 1] .normal) (b.aT a (.inRegion va [0]::oF kk)::cs)) c) :
  db X S (G (b.aT a (.inRegion va [0]::oF kk)) cs) s:=by
 refine .next rfl λc d=>?_
 have e:=h.rely (X.fG d);have q:a.eval (.tmp 9)=.pointer (some ⟨Wg,0,none⟩):=Rd.ft (e.fr.slot 9);have p:(execOp a.eval o6).run Tryz.prog c.w=.ok (.enter 126 #[.pointer (some ⟨Wg,0,none⟩),.int .i64 1]) c.w:=by
  have:=run_call_body (P:=Tryz.prog) (a:=a) (w:=c.w) (o:=o6) (f:=126) (fn:=Tryz.f126) rfl Tryz.func126 (by kernel_rfl) (by kernel_rfl)
  rw[this,<-q];simp only[List.map_toArray,iO,jz];rfl
 have n:(execOp a.eval o6).events Tryz.prog c.w #[]=#[]:=events_call_body (P:=Tryz.prog) (a:=a) (w:=c.w) (o:=o6) (f:=126) (fn:=Tryz.f126) rfl Tryz.func126 (by kernel_rfl) (by kernel_rfl) #[]
 have g:listed Tryz.prog b.fn a o6 c.w=#[]:=by unfold listed;rw[n];exact seen_none _ _
 refine⟨_,c,#[],?_,.quiet e.hh,K c e⟩;have:=qq (P:=Tryz.prog) (main:=X.main) (b:=b) (a:=a) (k:=oF kk) (cs:=cs) (w:=c.w) (ops:=va) (i:=0) (rest:=[]) (o:=o6) (by rw[AA];rfl) rfl m p
 rw[g] at this;exact this
def NB:Oper:={ dst:=some 26,op:=.makeFunc (.func 127) #[] #[.tmp 9,.tmp 3,.tmp 4,.tmp 11,.tmp 8,.tmp 10],type:=1,pos:= "l12_snap.go:80",after:=#[],guard:=none }
def HL:Oper:={ dst:=none,op:=.go { callee:=.value (.tmp 26),args:=#[],argTypes:=#[] },type:=0,pos:= "l12_snap.go:80",after:=#[⟨0,.data⟩],guard:=none }
theorem AB:sn=[NB,HL].toArray:=by kernel_rfl
variable (k ps ns C Wg) in
abbrev yV(i:Nat):AM.C:=.fn (.func 127) [] [.val (.pointer (some ⟨Wg,0,none⟩)),.rp [.int .i64 k],.rp [.sl false 2 ps.length (cP.fn ps)],.rp [.int .i64 (ns.getD i 0)],.rp [.val (.slice (some ⟨C,0,none⟩) ns.length ns.length)],.rp [.int .i64 i]]
theorem NC{i:Nat}:OA X 45 [NB,HL] NB ((25,.any)::m5 k ps ns C Wg i) d7 (.e (.one (.c (yV k ps ns C Wg i)))) d7:=by
 have h:zZ tt [] [] [NB,HL] ((25,.any)::m5 k ps ns C Wg i) d7 NB=some (.e (.one (.c (yV k ps ns C Wg i))),none,[]):=rfl;exact k5 tok aO.nil h ab
theorem Qs{i:Nat}(o:b.kind≠.early){a:Act}{s:St}(h:At j s0 (m5 k ps ns C Wg i) d7 a s)
  (K:∀ v g c,At j s0 (m5 k ps ns C Wg i) d7 g c->Rd c.M v (yV k ps ns C Wg i)->g.tmps.getD 26 undef=v->db X S (G (b.aT g (.inRegion sn [1]::.inBlock 1::.code GD::.inLoop fg::.inBlock 0::kk)) cs) c) :
  db X S (G (b.aT (a.put (some 25) (.tuple #[])) (.inRegion va []::oF kk)) cs) s:=by
 have p:At j s0 ((25,.any)::m5 k ps ns C Wg i) d7 (a.put (some 25) (.tuple #[])) s:=⟨h.fr.put (by decide) ab,h.hh,h.st⟩
 refine p.ctl rfl (λw=>dN) λs h=>?_
 refine h.ctl rfl (λw=>md) λs h=>?_
 rw[AB];refine NC s _ h.fr h.hh b _ cs S 0 [1] o rfl λv c f n e=>?_
 have f:Rd c.M v (yV k ps ns C Wg i):=eB f;have q:=((h.fr.mono e h.hh.len).put (d:=26) (v:=v) (x:=.any) (by decide) ab)
 have m:26<(a.put (some 25) (.tuple #[])).tmps.size:=by rw[h.fr.size];decide
 refine K v _ c ⟨q.le (cm rfl ?_),n,h.st.trans e⟩ f (DR m);simp[aa.cat,aa,ay.same]
theorem KJ{i:Nat}(hi:i<ns.length)(r:ns.length<=4000000)(c:b.kind≠.early)(e:j.length<=5){a:Act}{s:St}(h:At j s0 (m5 k ps ns C Wg i) d7 a s)
  (K:∀ m n,At j s0 (j3 k ps ns C Wg (i+1)) d5 m n->db X S (G (b.aT m (.code fg::.inLoop fg::.inBlock 0::kk)) cs) n) :
  db X S (G (b.aT a (.inRegion sn []::.inBlock 1::.code GD::.inLoop fg::.inBlock 0::kk)) cs) s:=by
 have g:bg 45 (d5++[.dead,.dead]) s (j3 k ps ns C Wg i) a:=h.fr.le (cm rfl (by simp[aa.cat,aa,ay.same]))
 have d:ag (d5++[.dead,.dead]) s:=h.hh;have f:bq j s0 (d5++[.dead,.dead]) s:=h.st;have p:er s (s.cut d5.length):=⟨rfl,λ_ _ _ h=>h,λ_ _ _=>rfl,d.mem,λb c=>c.imp id λ⟨L,o,c⟩=>⟨L,jU o,c⟩⟩
 refine .ghost p ?_;have h:At j s0 (j3 k ps ns C Wg i) d5 a (s.cut d5.length):=⟨⟨g.size,g.defers.imp λ_ q=>q.drop rfl,λt=>(g.slot t).drop (mm rfl)⟩,d.drop rfl,f.drop e⟩
 refine h.ctl rfl (λw=>dN) λs h=>?_
 refine h.ctl rfl (λw=>mW) λs h=>?_
 refine h.code c (Ur hi r) λa s h=>?_
 exact h.ctl rfl (λw=>sF) λs h=>K a s h
end
theorem rv{b:Frame}(d:b.roundOf=none)(a:Act)(t:List Item):b.aT a t=b.at ⟨a.tmps,a.defers++b.defers⟩ t:=by
 cases b;simp only at d;subst d;rfl
section
variable {k:Int}{ps:List aR}{ns:List Int}{Y:Lay}{val:Nat->Nat->Value}{c:List ak}{s0:St}{b:Frame}{kk:List Item}{cs:List Frame}
theorem Jk{a:Act}{w:World}{d f c2 c3 c4 c5:Value}(g:a.tmps.getD 26 undef=.func (.func 127) #[] #[d,f,c2,c3,c4,c5]):(execOp a.eval HL).run Tryz.prog w=.ok (.spawn (rq #[d,f,c2,c3,c4,c5])) w/\(execOp a.eval HL).events Tryz.prog w #[]=#[]:=by
 have e:a.eval (.tmp 26)=.func (.func 127) #[] #[d,f,c2,c3,c4,c5]:=g
 constructor
 ·simp[execOp,HL,resolve,Deferred.ofValue,e,rq]
 ·simp[execOp,HL,resolve,Deferred.ofValue,e]
theorem ND(n:bU (Cx.work Tryz.prog) 129 (jg k))(u:Y.kc=2)(f:b.roundOf=none)(A:b.kind≠.early){i:Nat}(hi:i<ns.length)
  (q:val i 0=.string ⟨((b9 k ps (ns.getD i 0)).getD []).toArray⟩) (m:val i 1=.bool (b9 k ps (ns.getD i 0)).isSome) {v:Value} {a:Act} {s:St} (h:At c s0 (m5 k ps ns Y.C Y.Wg i) d7 a s) (z:WgLive 197 Y.Wg s.w)
  (D:Rd s.M v (yV k ps ns Y.C Y.Wg i)) (x:a.tmps.getD 26 undef=v) {Next:Goroutine->St->Prop}
  (K:∀ e,At c s0 (m5 k ps ns Y.C Y.Wg i) d7 a e->WgLive 197 Y.Wg e.w->Next (G (b.aT a (.inRegion sn []::.inBlock 1::.code GD::.inLoop fg::.inBlock 0::kk)) cs) e) :
  AtGo Tryz.prog 197 Y (2*ns.length) val i Next (G (b.aT a (.inRegion sn [1]::.inBlock 1::.code GD::.inLoop fg::.inBlock 0::kk)) cs) s:=by
 refine⟨rfl,λe d=>?_⟩
 have y:=h.rely d.1;have t:Rd e.M v (yV k ps ns Y.C Y.Wg i):=by rw[d.1.M];exact D
 cases t with
 |fn fs cc IN OI f1 f2 g1 g2 r1 r2 =>
 have p:fs=[]:=fu IN;subst p;have r:cc=[f2 0,f2 1,f2 2,f2 3,f2 4,f2 5]:=by
  apply lB
  intro j;have OI:cc.length=6:=OI
  match j with
  |0=>exact g2 0 (by omega)
  |1=>exact g2 1 (by omega)
  |2=>exact g2 2 (by omega)
  |3=>exact g2 3 (by omega)
  |4=>exact g2 4 (by omega)
  |5=>exact g2 5 (by omega)
  |j+6=>rw[iL (by omega),iL (by simp)]
 subst r;have B:f2 0=.pointer (some ⟨Y.Wg,0,none⟩):=Rd.ft (r2 0 _ rfl);obtain⟨E,F⟩:=Jk (a:=a) (w:=e.w) x;have g:Go.Conc.listed Tryz.prog b.fn ⟨a.tmps,a.defers++b.defers⟩ HL e.w=#[]:=by
  unfold Go.Conc.listed;have:=(Jk (a:=⟨a.tmps,a.defers++b.defers⟩) (w:=e.w) x).2;rw[this];exact seen_none _ _
 have l:=stepG_spawn (P:=Tryz.prog) (main:=true) (b:=b) (a:=⟨a.tmps,a.defers++b.defers⟩) (k:=.inBlock 1::.code GD::.inLoop fg::.inBlock 0::kk) (cs:=cs) (w:=e.w) (ops:=sn) (i:=1) (rest:=[]) (o:=HL) (by rw[AB];rfl) rfl A E rfl
 refine⟨G (b.aT a (.inRegion sn []::.inBlock 1::.code GD::.inLoop fg::.inBlock 0::kk)) cs,born Tryz.prog (rq #[f2 0,f2 1,f2 2,f2 3,f2 4,f2 5]),?_,rfl,?_,K e y (d.2 z)⟩
 ·rw[rv f,rv f,l,g];rfl
 ·rw[B];exact worker n hi u q m (s:=e.child) ⟨y.hh.mem,rfl,by simp,by simp[St.child],by simp[St.child],by simp[St.child]⟩ rfl (r2 1 _ rfl) (r2 2 _ rfl) (r2 3 _ rfl) (r2 4 _ rfl) (r2 5 _ rfl)
def o9:Oper:={ dst:=some 28,op:=.call { callee:=.value (.func 130),args:=#[.tmp 9],argTypes:=#[197] },type:=0,pos:= "l12_snap.go:85",after:=#[],guard:=none }
theorem AD:sq=#[o9]:=by kernel_rfl
variable {X:Cx Tryz.prog}{S:Goroutine->St->Prop}
theorem KL(l:b.kind≠.early){C Wg:Nat}{a:Act}{s:St}(h:At c s0 (j3 k ps ns C Wg ns.length) d5 a s)
  (K:∀ j d,At c s0 (j3 k ps ns C Wg ns.length) d5 j d->db X S (G (Frame.enter Tryz.prog 130 #[.pointer (some ⟨Wg,0,none⟩)] .normal) (b.aT j (.inRegion sq [0]::.code mL::kk)::cs)) d) :
  db X S (G (b.aT a (.code fg::.inLoop fg::.inBlock 0::.code kA::kk)) cs) s:=by
 refine h.ctl rfl (λw=>qf wO) λs h=>?_
 refine h.code l (So (ar _)) λa s h=>?_
 refine h.ctl rfl (λw=>kT) λs h=>?_
 have m:a.eval (.tmp 21)=.bool false:=by
  have:=h.fr.slot 21;simp only[Nat.lt_irrefl,decide_false] at this;exact rd_bool (eB this)
 refine h.ctl rfl (λw=>pU m) λs h=>?_
 refine h.ctl rfl (λw=>uj (k':=.code kA::kk) rfl) λs h=>?_
 refine h.ctl rfl (λw=>qf EM) λs h=>?_
 refine h.ctl rfl (λw=>md) λs h=>?_
 have h:At c s0 (j3 k ps ns C Wg ns.length) d5 a s:=⟨h.fr.le (cm rfl (by simp[aa.cat,aa,ay.same])),h.hh,h.st⟩
 refine .next rfl λd g=>?_
 have e:=h.rely (X.fG g);have r:a.eval (.tmp 9)=.pointer (some ⟨Wg,0,none⟩):=Rd.ft (e.fr.slot 9);have q:(execOp a.eval o9).run Tryz.prog d.w=.ok (.enter 130 #[.pointer (some ⟨Wg,0,none⟩)]) d.w:=by
  have:=run_call_body (P:=Tryz.prog) (a:=a) (w:=d.w) (o:=o9) (f:=130) (fn:=Tryz.f130) rfl Tryz.func130 (by kernel_rfl) (by kernel_rfl)
  rw[this,<-r];simp only[List.map_toArray,iO,jz]
 have p:(execOp a.eval o9).events Tryz.prog d.w #[]=#[]:=events_call_body (P:=Tryz.prog) (a:=a) (w:=d.w) (o:=o9) (f:=130) (fn:=Tryz.f130) rfl Tryz.func130 (by kernel_rfl) (by kernel_rfl) #[]
 have n:Go.Conc.listed Tryz.prog b.fn a o9 d.w=#[]:=by unfold Go.Conc.listed;rw[p];exact seen_none _ _
 refine⟨_,d,#[],?_,.quiet e.hh,K a d e⟩;have:=qq (P:=Tryz.prog) (main:=X.main) (b:=b) (a:=a) (k:=.code mL::kk) (cs:=cs) (w:=d.w) (ops:=sq) (i:=0) (rest:=[]) (o:=o9) (by rw[AD];rfl) rfl l q
 rw[n] at this;exact this
section
variable (k ps ns Y c s0 b kk cs)
def ON(g:Goroutine)(s:St):Prop:=∃ a,As Tryz.prog Ji Y (At c s0 (j3 k ps ns Y.C Y.Wg ns.length) d5 a) (b.aT a (.inRegion sq [0]::.code mL::kk)) cs g s
def TF(g:Goroutine)(s:St):Prop:=∃ a,TW Tryz.prog Ji Y (At c s0 (j3 k ps ns Y.C Y.Wg ns.length) d5 a) (G (b.aT (a.put (some 28) (.tuple #[])) (.inRegion sq []::.code mL::kk)) cs) g s
end
theorem Us(f:GF Y.Wg s0)(d:b.roundOf=none){g:Goroutine}{s:St}(h:ON k ps ns Y c s0 b kk cs g s) :
  cB (Cx.lead Tryz.prog 197 Y.Wg) (Es Y.Wg) (AtW1 Tryz.prog 197 Y (TF k ps ns Y c s0 b kk cs) (ON k ps ns Y c s0 b kk cs)) g s:=by
 obtain⟨a,h⟩:=h;have i:(sq[0]?).bind (·.dst)=some 28:=by rw[AD];rfl
 rw[rv d] at h;refine Nf (P:=Tryz.prog) (L:=Ji) (b₀:=b) (a₀:=⟨a.tmps,a.defers++b.defers⟩) (ops₀:=sq) (i₀:=0) (rest₀:=[]) (k₀:=.code mL::kk) (cs:=cs) wN (At.apart f) (λg s e=>⟨a,?_⟩) (λg s j=>⟨a,?_⟩) h
 ·rw[rv d];rw[i] at e;exact e
 ·rw[rv d];exact j
theorem BS{P:Program}{ty:TypeId}{N n:Nat}{a:Goroutine->St->Prop}:∀ (r:Nat){g:Goroutine}{s:St},cB (Cx.lead P ty Y.Wg) (Es Y.Wg) (λg s=>Spawns P ty Y N val n a r g s) g s->Spawns P ty Y N val n a r g s
 |0,_,_,h=>cB.bind h λ_ _ x=>x
 |_+1,_,_,h=>cB.bind h λ_ _ x=>x
theorem HM(y:bU (Cx.work Tryz.prog) 129 (jg k))(B:Y.kc=2)(n:GF Y.Wg s0)(j:b.roundOf=none)(m:b.kind≠.early)(o:c.length<=5)(I:ns.length<=4000000)
  (z:∀ i,i<ns.length->val i 0=.string ⟨((b9 k ps (ns.getD i 0)).getD []).toArray⟩) (x:∀ i,i<ns.length->val i 1=.bool (b9 k ps (ns.getD i 0)).isSome) :
  ∀ (r:Nat),r<=ns.length->∀ (a:Act) (s:St),At c s0 (j3 k ps ns Y.C Y.Wg (ns.length-r)) d5 a s->WgLive 197 Y.Wg s.w ->
   Spawns Tryz.prog 197 Y (2*ns.length) val ns.length (ON k ps ns Y c s0 b kk cs) r (G (b.aT a (.code fg::.inLoop fg::.inBlock 0::.code kA::kk)) cs) s:=by
 intro r
 induction r with
 |zero =>
  intro _ a s h d;rw[jy] at h;have:=db.live (E:=Es Y.Wg) (KL (X:=Cx.lead Tryz.prog 197 Y.Wg) (kk:=kk) (cs:=cs) (S:=λg s=>∃ a,g=G (Frame.enter Tryz.prog 130 #[.pointer (some ⟨Y.Wg,0,none⟩)] .normal) (b.aT a (.inRegion sq [0]::.code mL::kk)::cs)/\At c s0 (j3 k ps ns Y.C Y.Wg ns.length) d5 a s) m h λf p e=>.stop ⟨f,rfl,e⟩) (n.step h.st).clear d
  refine cB.bind this ?_;rintro g s ⟨⟨a,rfl,h⟩,d⟩;exact Nh (P:=Tryz.prog) (L:=Ji) (Y:=Y) wN (At.apart n) (λg s H=>⟨a,H⟩) ⟨h,d⟩
 |succ r J =>
  intro K a s h d;have hi:ns.length-(r+1)<ns.length:=by omega
  generalize A:ns.length-(r+1)=i at h hi;have:=db.live (E:=Es Y.Wg) (toAdd (X:=Cx.lead Tryz.prog 197 Y.Wg) (kk:=.code kA::kk) (cs:=cs) (S:=λg s=>∃ a,g=G (Frame.enter Tryz.prog 126 #[.pointer (some ⟨Y.Wg,0,none⟩),.int .i64 1] .normal) (b.aT a (.inRegion va [0]::oF (.code kA::kk))::cs)/\At c s0 (m5 k ps ns Y.C Y.Wg i) d7 a s) hi m h λf p e=>EN m e λs2 h2=>.stop ⟨f,rfl,h2⟩) (n.step h.st).clear d
  refine cB.bind this ?_;rintro g s ⟨⟨a,rfl,h⟩,d⟩;have D:(va[0]?).bind (·.dst)=some 25:=by rw[AA];rfl
  rw[rv j];refine Qg (P:=Tryz.prog) (L:=Ji) (Y:=Y) (F:=At c s0 (m5 k ps ns Y.C Y.Wg i) d7 a) wN (At.apart n) (λs q=>?_) ⟨h,d⟩
  rw[D];have:=db.live (E:=Es Y.Wg) (Qs (X:=Cx.lead Tryz.prog 197 Y.Wg) (kk:=.code kA::kk) (cs:=cs) (S:=λg s=>∃ v a,g=G (b.aT a (.inRegion sn [1]::.inBlock 1::.code GD::.inLoop fg::.inBlock 0::.code kA::kk)) cs/\At c s0 (m5 k ps ns Y.C Y.Wg i) d7 a s/\Rd s.M v (yV k ps ns Y.C Y.Wg i)/\a.tmps.getD 26 undef=v) m q.1 λv f p e t l=>.stop ⟨v,f,rfl,e,t,l⟩) (n.step q.1.st).clear q.2
  rw[rv j] at this;refine cB.bind this ?_;rintro g s ⟨⟨v,a,rfl,h,t,l⟩,d⟩;rw[A];refine⟨.leaf,ND y B j m hi (z i hi) (x i hi) h d t l λp e u=>?_⟩
  refine BS r ?_;have:=db.live (E:=Es Y.Wg) (KJ (X:=Cx.lead Tryz.prog 197 Y.Wg) (kk:=.code kA::kk) (cs:=cs) (S:=λg s=>∃ a,g=G (b.aT a (.code fg::.inLoop fg::.inBlock 0::.code kA::kk)) cs/\At c s0 (j3 k ps ns Y.C Y.Wg (i+1)) d5 a s) hi I m o e λf p e=>.stop ⟨f,rfl,e⟩) (n.step e.st).clear u
  refine cB.bind this ?_;rintro g s ⟨⟨a,rfl,h⟩,d⟩;refine⟨.leaf,J (by omega) a s ?_ d⟩
  rw[show ns.length-r=i+1 by omega]
  exact h
end
end Go.AM.R1
namespace Go.AM
open Go.Conc
theorem ag.NF{σ:List ak}{s:St}(hh:ag σ s){l:Nat}{B:ak}{L:Loc}(n:σ[l]?=some B)(m:s.β[l]?=some L)(r:(∃ E cs,B=.cells E cs)∨∃ H,B=.cQ H) :
  ag (σ.set l .dead) { s with β:=s.β.set l ⟨L.v,[]⟩ }/\Step σ s (σ.set l .dead) { s with β:=s.β.set l ⟨L.v,[]⟩ }:=by
 have k:l<σ.length:=(aE.1 n).1;have g:l<s.β.length:=(aE.1 m).1;have a:∀ l',(s.β.set l ⟨L.v,[]⟩)[l']?=if l=l' then some ⟨L.v,[]⟩ else s.β[l']?:=by
  intro l'
  by_cases e:l=l'
  ·subst e;rw[aq rfl,br g]
  ·rw[an e,b7 e]
 have d:∀ L'∈s.β.set l ⟨L.v,[]⟩,∀ b∈L'.bs,L'∈s.β:=by
  intro L' eY b c;obtain⟨l',f⟩:=tY.1 eY;rw[a] at f;split at f
  ·cases f;simp at c
  ·exact aG f
 have st:Step σ s (σ.set l .dead) { s with β:=s.β.set l ⟨L.v,[]⟩ }:=by
  refine⟨ar _,λ_ _ _=>rfl,λ_ _ _ h=>h,λ_ _ _ _=>rfl,λL' eY b c=>.inr ⟨L',d L' eY b c,c⟩,?_,rfl,rfl,rfl,rfl⟩
  intro l' B' L' ir eY
  by_cases e:l=l'
  ·subst e;rw[n] at ir;cases ir;rw[m] at eY;cases eY;refine⟨.dead,⟨L.v,[]⟩,by rw[br k],by rw[a,aq rfl],?_⟩
   rcases r with⟨E,cs,rfl⟩|⟨H,rfl⟩ <;> rfl
  ·exact⟨B',L',by rw[b7 e];exact ir,by rw[a,an e];exact eY,.refl _ _⟩
 refine⟨⟨hh.mem,by simp[hh.len],?_,?_,λL' eY b c=>hh.lt L' (d L' eY b c) b c,λb c=>⟨(hh.own b c).1,λL' eY Ba=>(hh.own b c).2 L' (d L' eY b Ba) Ba⟩⟩,st⟩
 ·intro l' B' L' ir eY
  by_cases e:l=l'
  ·subst e;rw[br k] at ir;cases ir;trivial
  ·rw[b7 e] at ir;rw[a,an e] at eY;exact(hh.box l' B' L' ir eY).carry st.ext hh.len λb c=>⟨rfl,λo=>rfl⟩
 ·intro q p L1 L2 h1 h2 b i j;rw[a] at h1 h2;split at h1
  ·cases h1;simp at i
  ·split at h2
   ·cases h2;simp at j
   ·exact hh.eE q p L1 L2 h1 h2 b i j
theorem b5.closed{σ σ':List ak}{s s':St}(a:s'.M=s.M){v:Value}{d:D}(h:b5 σ s v d)(c:ux 0 d=true):b5 σ' s' v d:=by
 have h1:=b5.drop (σ1:=[]) (rest:=σ) h c;refine b5.mono (σ:=[]) (s:=s.cut 0) ⟨λb o v e=>by rw[a];exact e,λl B L f _=>by simp at f⟩ (by simp[St.cut]) h1
end Go.AM
namespace Go.AM.R1
open Go.Proofs Go.Conc Go.Conc.Lib
open Go.ConcN (WgLive PayAt Has RW AtR0)
open Go.ConcR (KK WgAt stA smA rd wr mk Payload DC0)
noncomputable def NG:Code:=ru (ia (ia (ia yU)))
noncomputable def Sp:Code:=ru NG
noncomputable def Qt:Code:=ia (ia (ia yU))
theorem KM:Qt=.seq (.seq Sp (.block 0 (.loop fg))) kA:=by kernel_rfl
section
variable {p:List ak}{s0:St}{φ:Fr}{σ:List ak}{a:Act}{s:St}{S:Goroutine->St->Prop}
theorem At.goes{Wg:Nat}{j:Goroutine}:∀ (m:Nat)(g:Goroutine)(s:St),At p s0 φ σ a s->WgLive 197 Wg s.w->Goes Tryz.prog true (c7 197 Wg) DC0 (λg _=>g=j) m g s.w ->
  (∀ c,At p s0 φ σ a c->db (Cx.beside Tryz.prog) S j c)->db (Cx.beside Tryz.prog) S g s
 |0,g,s,h,_,e,K=>by
  obtain rfl:g=j:=e s.w (.refl _);exact K s h
 |m+1,g,s,h,hl,e,K=>by
  rcases e with e|⟨n,e⟩
  ·obtain rfl:g=j:=e s.w (.refl _);exact K s h
  ·refine .next n λc b=>?_
   have h1:=h.rely b.1;obtain⟨d,l⟩:=b.2;have i:WgLive 197 Wg c.w:=by rw[l];exact hl
   have h2:=e c.w (λ_=>i)
   cases f:stepG Tryz.prog true g c.w with
   |go g' w' es =>
    rw[f,goes_go] at h2;obtain⟨⟨rfl,rfl⟩,o⟩:=h2;exact⟨g',c,#[],f,.quiet h1.hh,At.goes m g' c h1 i o K⟩
   |_=>rw[f] at h2;exact h2.elim
theorem jF{σ:List ak}{s:St}(c:∀ B∈σ,B=.dead){ds:List Deferred}{b:List Nat}(h:j0 σ s ds b):ds=[]:=by
 cases ds with
 |nil=>rfl
 |cons d ds =>
  cases b with
  |nil=>exact h.elim
  |cons l b =>
   have:=c _ (aG h.1.1);cases this
end
section
variable {k:Int}{ps:List aR}{ns:List Int}{C:Nat}{xs:List Value}
variable (k ps ns C) in
def HN:Fr:=[(2,cI.sl ns),(3,.e (.one (.ptr 0 0))),(4,.e (.one (.ptr 1 0))),(8,.e (.one (.ptr 3 0))),(9,.e (.one (.ptr 4 0)))]
variable (k ps ns C xs) in
def vb:List ak:=[.cells 3 [.c (.int .i64 k)],.cells 37 [.c (.sl false 2 ps.length (cP.fn ps))],.cQ (vH 200 2 (.row C ns.length) ns.length xs),.cells 189 [.c (.val (.slice (some ⟨C,0,none⟩) ns.length ns.length))],.cells 197 [.c (.int .u64 0),.c (.int .u32 0)]]
variable (k ps ns) in
def vM(x i:Nat):Value:=if i=0 then .string ⟨((b9 k ps (ns.getD x 0)).getD []).toArray⟩ else .bool (b9 k ps (ns.getD x 0)).isSome
variable (k ps ns) in
def jh:List Value:=ns.flatMap λn=>[.string ⟨((b9 k ps n).getD []).toArray⟩,.bool (b9 k ps n).isSome]
variable (k ps ns C) in
def yW:List ak:=[.dead,.dead,.cQ (vH 200 2 (.row C ns.length) ns.length (jh k ps ns)),.dead,.dead]
theorem Ut{X:Cx Tryz.prog}:AW X 45 Sp (NQ ((18,cI.sl ns)::(19,dI ns.length)::(20,dI 0)::HN ns) (vb k ps ns C xs)) (HN ns) (vb k ps ns C xs):=by
 refine AK.of_code ?_;refine bw rfl ab ⟨rfl,cm rfl ?_,rfl⟩;simp[aa.cat,aa,ay.same]
theorem ry:(jh k ps ns).length=ns.length*2:=by
 unfold jh
 induction ns with
 |nil=>rfl
 |cons n r b=>simp only[List.flatMap_cons,bc,b,fa,kK];omega
theorem vc:∀ {ns:List Int}{x i:Nat},x<ns.length->i<2->(jh k ps ns)[2*x+i]?=some (vM k ps ns x i)
 |[],x,i,h,_=>by simp at h
 |n::r,0,i,_,hi=>by
  match i,hi with
  |0,_=>rfl
  |1,_=>rfl
 |n::r,x+1,i,h,hi=>by
  have:=vc (ns:=r) (x:=x) (i:=i) (by simpa using h) hi
  unfold jh at this ⊢;rw[List.flatMap_cons,cj (by simp;omega)]
  rw[show 2*(x+1)+i - [Value.string ⟨((b9 k ps n).getD []).toArray⟩,Value.bool (b9 k ps n).isSome].length=2*x+i by simp;omega]
  rw[this];simp[vM]
theorem _root_.Go.AM.bg.seen{N b:Nat}{d:D}{σ:List ak}{s:St}{φ:Fr}{a:Act}(f:bg N σ s φ a)(h:b5 σ s (a.tmps.getD b undef) d):bg N σ s ((b,d)::φ) a:=by
 refine⟨f.size,f.defers,λt=>?_⟩
 simp only[look];cases c:Nat.beq b t with
 |false=>exact f.slot t
 |true=>rw[<-bk c];exact h
theorem getSet{α:Type}{l:List α}{i:Nat}{x y:α}(hi:i<l.length)(j:Nat)(h:(l.set i x)[j]?=some y):(j=i/\y=x)∨(j≠i/\l[j]?=some y):=by
 by_cases e:i=j
 ·subst e;rw[br hi] at h;cases h;exact .inl ⟨rfl,rfl⟩
 ·rw[b7 e] at h;exact .inr ⟨λb=>e b.symm,h⟩
abbrev EO(n C:Nat):Fr:=[(8,.e (.one (.c (.rp [.val (.slice (some ⟨C,0,none⟩) n n)]))))]
variable (k ps ns C) in
abbrev NH:Fr:=(8,.e (.one (.c (.rp [.val (.slice (some ⟨C,0,none⟩) ns.length ns.length)]))))::(4,.e (.one (.c (.rp [.sl false 2 ps.length (cP.fn ps)]))))::(3,.e (.one (.c (.rp [.int .i64 k]))))::(18,cI.sl ns)::(19,dI ns.length)::(20,dI 0)::[(9,.e (.one (.ptr 4 0)))]
set_option maxHeartbeats 2000000 in
theorem NI(Uu:bU (Cx.work Tryz.prog) 129 (jg k)){Q:Post}(hn:ns.length<=4000000)(NJ:mF (Cx.beside Tryz.prog) 45 mL Q (EO ns.length C) (yW k ps ns C)):mF (Cx.beside Tryz.prog) 45 Qt Q (HN ns) (vb k ps ns C xs):=by
 intro so ao hf Uv b kk cs S hb M0 hQ;have h:At (vb k ps ns C xs) so (HN ns) (vb k ps ns C xs) ao so:=⟨hf,Uv,.refl _ _⟩;refine h.ctl rfl (λw=>qf KM) λs h=>?_
 refine h.ctl rfl (λw=>kT) λs h=>?_
 refine h.code hb Ut λa s h=>?_
 obtain⟨s1,w1,f1,U,JL⟩:=bg.freeze 3 0 (E:=3) (cs:=[.c (.int .i64 k)]) (cc:=[.int .i64 k]) rfl rfl rfl h.fr h.hh;refine .ghost (.of h.hh U w1 (JL.mG h.hh)) ?_;obtain⟨s2,w2,f2,R,nA⟩:=bg.freeze 4 1 (E:=37) (cs:=[.c (.sl false 2 ps.length (cP.fn ps))]) (cc:=[.sl false 2 ps.length (cP.fn ps)]) rfl rfl rfl f1 U;refine .ghost (.of U R w2 (nA.mG U)) ?_;obtain⟨s3,w3,f3,LW,Hl⟩:=bg.freeze 8 3 (E:=189) (cs:=[.c (.val (.slice (some ⟨C,0,none⟩) ns.length ns.length))]) (cc:=[.val (.slice (some ⟨C,0,none⟩) ns.length ns.length)]) rfl rfl rfl f2 R;refine .ghost (.of R LW w3 (Hl.mG R)) ?_;have h:At (vb k ps ns C xs) so (NH k ps ns C)
   [.dead,.dead,.cQ (vH 200 2 (.row C ns.length) ns.length xs),.dead,.cells 197 [.c (.int .u64 0),.c (.int .u32 0)]] a s3 :=
  ⟨f3.le (cm rfl (by simp[aa.cat,aa,ay.same])),LW,h.st.trans ((JL.mG h.hh).trans ((nA.mG U).trans (Hl.mG R)))⟩
 clear JL nA Hl f1 f2 f3 U R LW;refine h.ctl rfl (λw=>nt) λs h=>?_
 refine h.ctl rfl (λw=>zN) λs h=>?_
 have hlen:=h.hh.len;simp only[fa,kK] at hlen;obtain⟨O,A⟩:∃ L,s.β[2]?=some L:=⟨_,aj (by omega)⟩
 obtain⟨L4,H⟩:∃ L,s.β[4]?=some L:=⟨_,aj (by omega)⟩
 obtain⟨ch,hH,NK,Rz,OL⟩:=h.hh.box 2 _ O rfl A;obtain⟨zs,Uw,NL,Ux⟩:=vH.lookup hH;obtain⟨Sq,_,V0,_,_,_⟩:=hH;have J:C∈O.bs:=(Rz C).2 (by rw[NL];rfl)
 have NM:=NK C _ NL;obtain⟨Wg,vs,z,Jl,Uy,Uz⟩:=h.hh.box 4 _ L4 rfl H;have Qu:vs=[.int .u64 0,.int .u32 0]:=by
  match vs,Uy with
  |[],r=>exact r.elim
  |[_],r=>exact r.2.elim
  |_::_::_::_,r=>exact r.2.2.elim
  |[u0,u1],r =>
   have r0:Rd s.M u0 (.int .u64 0):=r.1;have r1:Rd s.M u1 (.int .u32 0):=r.2.1;cases r0;cases r1;rfl
 subst Qu;have sK:C≠Wg:=by
  rintro rfl;have:=h.hh.eE 2 4 O L4 A H C J (by rw[z];simp)
  omega
 have UA:a.tmps.getD 9 undef=.pointer (some ⟨Wg,0,none⟩):=by
  obtain⟨_,L,bb,q1,q2,q3⟩:=h.fr.slot 9;rw[H] at q1;cases q1;rw[z] at q2;cases q2;exact q3
 obtain⟨g1,t1⟩:=h.hh.NF (l:=2) rfl A (.inr ⟨_,rfl⟩);have Qv:(s.β.set 2 ⟨O.v,[]⟩)[4]?=some L4:=by rw[b7 (by decide)];exact H
 obtain⟨g2,t2⟩:=g1.NF (l:=4) (B:=.cells 197 [.c (.int .u64 0),.c (.int .u32 0)]) rfl Qv (.inl ⟨_,_,rfl⟩);generalize OO:({ s with β:=(s.β.set 2 ⟨O.v,[]⟩).set 4 ⟨L4.v,[]⟩ }:St)=sB at g2 t2;have eβ:sB.β=(s.β.set 2 ⟨O.v,[]⟩).set 4 ⟨L4.v,[]⟩:=by rw[<-OO]
 have eM:sB.M=s.M:=by rw[<-OO]
 have X:sB.w=s.w:=by rw[<-OO]
 have eo:sB.own=s.own:=by rw[<-OO]
 have Ss:ag d5 sB:=g2;have GG:=(t1.mG h.hh).trans (t2.mG g1);have Qw:sB.β[2]?=some ⟨O.v,[]⟩:=by rw[eβ,b7 (by decide),br (by omega)]
 have D:∀ L∈sB.β,∀ x∈L.bs,∃ l,l≠2/\l≠4/\s.β[l]?=some L:=by
  intro L f x d;rw[eβ] at f;obtain⟨l,F⟩:=tY.1 f;rcases getSet (by simp;omega) l F with⟨_,rfl⟩|⟨n4,F⟩
  ·simp at d
  ·rcases getSet (by omega) l F with⟨_,rfl⟩|⟨n2,F⟩
   ·simp at d
   ·exact⟨l,n2,n4,F⟩
 have we:C<s.w.heap.size:=h.hh.lt O (aG A) C J;have uL:Wg<s.w.heap.size:=h.hh.lt L4 (aG H) Wg (by rw[z];simp)
 have Qx:GF C sB:=⟨by rw[eo];exactλho=>(h.hh.own C ho).2 O (aG A) J,λL f d=>by
  obtain⟨l,n2,n4,F⟩:=D L f C d;exact n2 (h.hh.eE l 2 L O F A C d J),λo=>by rw[eM];exact OL C J o,by rw[X];exact we⟩
 have Z:GF Wg sB:=⟨by rw[eo];exactλho=>(h.hh.own Wg ho).2 L4 (aG H) (by rw[z];simp),λL f d=>by
  obtain⟨l,n2,n4,F⟩:=D L f Wg d;exact n4 (h.hh.eE l 4 L L4 F H Wg d (by rw[z];simp)),λo=>by rw[eM];exact Uz o,by rw[X];exact uL⟩
 have fB:bg 45 d5 sB (j3 k ps ns C Wg 0) a:=by
  have q:=h.fr.mono GG h.hh.len;have q9:bg 45 d5 sB ((9,.e (.one (.v (.pointer (some ⟨Wg,0,none⟩)))))::NH k ps ns C) a:=q.seen (by rw[UA];exact Rd.val rfl)
  exact q9.le (cm rfl (by simp[aa.cat,aa,ay.same]))
 have KN:(xs++zs).toArray.size=2*ns.length:=by simp only[mU,Uw];omega
 have Hi:∀ x,(s.own x∨∃ L∈s.β,x∈L.bs)->x<s.w.heap.size:=λx d=>d.elim (λq=>(h.hh.own x q).1) λ⟨L,f,q⟩=>h.hh.lt L f x q
 refine .r7 (T:=λg' s'=>∃ a4 m,At (vb k ps ns C xs) so (EO ns.length C) (yW k ps ns C) a4 s'/\WgLive 197 Wg s'.w/\Goes Tryz.prog true (c7 197 Wg) DC0 (λg _=>g=G (b.aT (a4.put (some 28) (.tuple #[])) (.inRegion sq []::.code mL::kk)) cs) m g' s'.w)
  (Mb.fork (n:=ns.length) (ty:=197) (val:=vM k ps ns) (N:=2*ns.length) (s0:=sB) 2 (by omega) Wg C (by omega) sK (.of h.hh Ss X GG) rfl ⟨O,aG A,J⟩ ⟨L4,aG H,by rw[z];simp⟩ Hi ?_ Jl ⟨_,NM,KN⟩ ?_) ?_
 ·rintro x (rfl|rfl)
  ·exact⟨Qx.own,Qx.β,Qx.M⟩
  ·exact⟨Z.own,Z.β,Z.M⟩
 ·intro Y UB UC UD;subst UB UC;refine⟨TF k ps ns Y d5 sB b kk cs,ON k ps ns Y d5 sB b kk cs,λg s d=>Us Z M0 d,?_,?_⟩
  ·refine HM Uu UD Z M0 hb (by decide) hn (λi hi=>rfl) (λi hi=>rfl) ns.length (ar _) a sB ⟨by rw[Nat.sub_self];exact fB,Ss,.refl _ _⟩ ⟨_,_,by rw[X];exact Jl⟩
  ·rintro g' s' ⟨a4,⟨j,EL⟩,m,hgo⟩ hm' NN KO J6 NO;obtain⟨o1,o2,o3⟩:=NO Y.C (.inl rfl);obtain⟨lN,W,UE⟩:=NN;have OF:lN=(jh k ps ns).toArray:=by
    apply Array.ext_getElem?
    intro o;have UF:(jh k ps ns).toArray[o]?=(jh k ps ns)[o]?:=by simp
    rw[UF];rcases bC o (2*ns.length) with ho|ho
    ·have q1:=KO (o / 2) (by omega) (o % 2) (by omega)
     have q2:=vc (k:=k) (ps:=ps) (ns:=ns) (x:=o / 2) (i:=o % 2) (by omega) (by omega)
     rw[show 2*(o / 2)+o % 2=o by omega] at q1 q2
     rw[q2];simpa[World.cell?,W] using q1
    ·rw[pH (by omega),iL (by rw[ry];omega)]
   subst OF;have yd:s'.β.length=5:=j.hh.len;obtain⟨V1,Su,p1,p2,p3⟩:=j.st.box 2 .dead ⟨O.v,[]⟩ rfl Qw;have UG:Su.v=.nilFunc:=by
    cases p1;exact(show Su.v=O.v from p3).trans Sq
   have Jm:∀ (l:Nat) (B:ak),d5[l]?=some B->B=.dead:=by
    intro l B y
    match l,y with
    |0,y|1,y|2,y|3,y|4,y=>cases y;rfl
   have I:∀ l,(s'.β.set 2 ⟨.nilFunc,[Y.C]⟩)[l]?=if l=2 then some ⟨.nilFunc,[Y.C]⟩ else s'.β[l]?:=by
    intro l
    by_cases e:l=2
    ·subst e;rw[aq rfl,br (by omega)]
    ·rw[an e,b7 (λe'=>e e'.symm)]
   have P:∀ L∈s'.β.set 2 ⟨.nilFunc,[Y.C]⟩,L=⟨.nilFunc,[Y.C]⟩∨L∈s'.β:=λL f=>by
    obtain⟨l,F⟩:=tY.1 f;rw[I] at F;split at F
    ·cases F;exact .inl rfl
    ·exact .inr (aG F)
   have OH:ag (yW k ps ns Y.C) { s' with β:=s'.β.set 2 ⟨.nilFunc,[Y.C]⟩ }:=by
    refine⟨j.hh.mem,by simp[yd,yW],?_,?_,?_,λx d=>⟨(j.hh.own x d).1,λL f u=>?_⟩⟩
    ·intro l B L y f;rw[I] at f
     by_cases e:l=2
     ·subst e;rw[aq rfl] at f;cases f;cases y;refine⟨λb'=>if b'=Y.C then some (.cells (jh k ps ns++[]).toArray 200 (0,0)) else none,⟨rfl,?_,ry,ar _,by omega,[],by simp[ry],rfl⟩,λb' ob V=>?_,λb'=>?_,λb' V o=>?_⟩
      ·intro x d;simp only[jh,List.mem_flatMap] at d;obtain⟨_,_,d⟩:=d;simp only[dy,pM,or_false] at d;rcases d with rfl|rfl <;> rfl
      ·by_cases e:b'=Y.C
       ·subst e;simp only[aV] at V;cases V;rw[gH];exact W
       ·simp[e] at V
      ·by_cases e:b'=Y.C <;> simp[e]
      ·simp at V;subst V;exact o3 o
     ·match l,y,e with
      |0,y,_|1,y,_|3,y,_|4,y,_=>cases y;trivial
      |2,_,e=>exact absurd rfl e
    ·intro l l' L L' f K x d GA;rw[I] at f K
     by_cases e:l=2
     ·rw[aq e] at f;cases f;simp at d;subst d
      by_cases e':l'=2
      ·omega
      ·rw[an e'] at K;exact absurd GA (o2 L' (aG K))
     ·rw[an e] at f
      by_cases e':l'=2
      ·rw[aq e'] at K;cases K;simp at GA;subst GA;exact absurd d (o2 L (aG f))
      ·rw[an e'] at K;exact j.hh.eE l l' L L' f K x d GA
    ·intro L f x d;rcases P L f with rfl|f
     ·simp at d;subst d;exact J6
     ·exact j.hh.lt L f x d
    ·rcases P L f with rfl|f
     ·simp at u;subst u;exact o1 d
     ·exact(j.hh.own x d).2 L f u
   have Qy:bq [.dead,.dead,.cQ (vH 200 2 (.row Y.C ns.length) ns.length xs),.dead,.cells 197 [.c (.int .u64 0),.c (.int .u32 0)]] s (yW k ps ns Y.C) { s' with β:=s'.β.set 2 ⟨.nilFunc,[Y.C]⟩ }:=by
    have q:=j.st;refine⟨by have:=q.size;rw[X] at this;exact this,λx d=>by have:=q.ee x (by rw[eo];exact d);rw[X] at this;exact this,λx o v d=>q.mem x o v (by rw[eM];exact d),λx d UH o=>?_,λL f x d=>?_,?_,by rw[q.os,X],by rw[q.tape,X],by rw[q.output,X],by rw[q.own,eo]⟩
    ·rw[q.gJ x (by rw[X];exact d) (λL f u=>by
      obtain⟨l,_,_,F⟩:=D L f x u;exact UH L (aG F) u) o,eM]
    ·rcases P L f with rfl|f
     ·simp at d;subst d;exact .inr ⟨O,aG A,J⟩
     ·rcases q.pT L f x d with r1|⟨L0,r1,r2⟩
      ·rw[X] at r1;exact .inl r1
      ·obtain⟨l,_,_,F⟩:=D L0 r1 x r2;exact .inr ⟨L0,aG F,r2⟩
    ·intro l B L y f;obtain⟨B1,L1,r1,r2,r3⟩:=GG.box l B L y f;obtain⟨B3,L3,u1,u2,u3⟩:=q.box l B1 L1 r1 r2;have UI:=Jm l B1 r1;have UJ:=Jm l B3 u1;subst UI UJ
     by_cases e:l=2
     ·subst e;cases y;rw[A] at f;cases f;exact⟨_,⟨.nilFunc,[Y.C]⟩,rfl,by rw[I,aq rfl],Sq.symm⟩
     ·refine⟨.dead,L3,?_,by rw[I,an e];exact u2,r3.trans u3⟩
      match l,u1,e with
      |0,_,_|1,_,_|3,_,_|4,_,_=>rfl
      |2,_,e=>exact absurd rfl e
   refine⟨{ s' with β:=s'.β.set 2 ⟨.nilFunc,[Y.C]⟩ },⟨a4,m,⟨⟨j.fr.size,⟨[],?_⟩,λt=>?_⟩,OH,h.st.trans Qy⟩,EL,hgo⟩,rfl,hm',λSh OP UK=>⟨OP.own,λx d L f u=>?_,OP.M,OP.lt⟩⟩
   ·obtain⟨ls,Ka⟩:=j.fr.defers;rw[jF (λB y=>by simp at y;exact y) Ka]
    trivial
   ·have fq:bg 45 d5 s' (EO ns.length Y.C) a4:=j.fr.le (cm rfl (by simp[aa.cat,aa]))
    exact b5.closed (s:=s') (s':={ s' with β:=s'.β.set 2 ⟨.nilFunc,[Y.C]⟩ }) rfl (fq.slot t) (mm rfl)
   ·rcases P L f with rfl|f
    ·simp at u;subst u;exact UK d
    ·exact OP.β x d L f u
 ·rintro g' s' ⟨a4,m,h4,UL,hgo⟩;refine At.goes m g' s' h4 UL hgo λs1 h1=>?_
  have h2:At (vb k ps ns C xs) so ((28,.any)::EO ns.length C) (yW k ps ns C) (a4.put (some 28) (.tuple #[])) s1:=⟨h1.fr.put (by decide) ab,h1.hh,h1.st⟩
  refine h2.ctl rfl (λw=>dN) λs2 h3=>?_
  refine NJ s2 _ (h3.fr.le (cm rfl (by simp[aa.cat,aa]))) h3.hh b kk cs S hb M0 λe φ' σ' s' a' q f' h' js=>hQ e φ' σ' s' a' q f' h' (h3.st.trans js)
end
end Go.AM.R1
namespace Go.AM.R1
open Go.Proofs
abbrev Qz(a:List Bs)(b:Bool):D:=.eD [.one (.c (.sl false 1 a.length (cS.fn a))),.one (.c (.bool b))]
def cO(k:Int)(ps:List aR)(ns:List Int):Option (List Bs):=if ns.all (λn=>(b9 k ps n).isSome) then some (ns.map λn=>(b9 k ps n).getD []) else none
noncomputable def UM:Code:=ru yU
noncomputable def UN:Code:=ru (ia yU)
noncomputable def UO:Code:=ru (ia (ia yU))
theorem HO:Tryz.f95.body=some (.seq UM (.seq UN (.seq UO Qt))):=by kernel_rfl
def KP(k:Int)(ps:List aR)(ns:List Int)(i:Nat):List AM.C:=[.str ((b9 k ps (ns.getD i 0)).getD []),.bool (b9 k ps (ns.getD i 0)).isSome]
def pB(k:Int)(ps:List aR)(ns:List Int):List Bs:=ns.map λn=>(b9 k ps n).getD []
theorem wP{b p:Bs}(h:c8 b=some p):p.length<=8:=by
 unfold c8 at h;split at h
 ·rename_i a
  cases h;simp only[bF,aY,aD] at a;omega
 ·cases h
theorem BT{k:Int}{x:ew}{p:Bs}(h:chunk k x=some p):p.length<=8:=by
 unfold chunk at h;split at h
 ·rename_i q a
  split at h
  ·cases h;exact wP a
  ·cases h
 ·cases h
theorem tg{k:Int}{ps:List aR}{n:Int}:((b9 k ps n).getD []).length<=8:=by
 cases h:b9 k ps n with
 |none=>simp
 |some p =>
  obtain⟨q,_,a⟩:=List.exists_of_findSome?_eq_some h;unfold cn at a;split at a
  ·simpa using BT a
  ·cases a
theorem KQ{k:Int}{ps:List aR}{ns:List Int}{i:Nat}(hi:i<ns.length){M:Mem}{j:Nat}{c:AM.C}{x:Value}(a:(KP k ps ns i)[j]?=some c)(d:(jh k ps ns)[i*2+j]?=some x):Rd M x c:=by
 have b:j<2:=(aE.1 a).1;have:=vc (k:=k) (ps:=ps) hi b;rw[iA,this] at d;cases d
 match j,b with
 |0,_ =>
  cases a;have:=tg (k:=k) (ps:=ps) (n:=ns.getD i 0);exact .str rfl (by omega)
 |1,_=>cases a;exact .bool
theorem _root_.Go.AM.mF.le{P:Program}{X:Cx P}{N:Nat}{Q:Post}{φ φ':Fr}{σ:List ak}{c:Code}(h:mF X N c Q φ' σ)(hl:nT φ φ'):mF X N c Q φ σ:=λs a f hh=>h s a (f.le hl) hh
theorem wM{k:Int}(s:bU (Cx.work Tryz.prog) 129 (jg k))(ps:List aR)(ns:List Int)(v:ns.length<=4000000) :
  Ev (Cx.beside Tryz.prog) 95 [dI k,cP.sl ps,cI.sl ns] [] (Qz ((cO k ps ns).getD []) (cO k ps ns).isSome) []:=by
 refine fb.Df (fb.yu (ι:=Unit) Tryz.func95 rfl HO rfl λw=>?_)
 show mF _ 45 _ _ _ _;refine mF.seq (AW.top (AK.of_code ?_));refine bw rfl ab ?_;show mF _ 45 _ _ _ _;refine mF.seq (AW.top (AK.of_code ?_));refine bw rfl ab ?_;refine AK.C9 (E:=200) (n:=ns.length) tok rfl rfl rfl rfl rfl rfl (by show _*24<=_;omega) (by omega) rfl rfl λC xs=>?_
 refine bw rfl ab ?_;show mF _ 45 _ _ _ _;refine mF.seq (AW.top (AK.of_code ?_));refine bw rfl ab ?_;show mF _ 45 _ _ _ _;have b:mF (Cx.beside Tryz.prog) 45 mL (λe φ σ1=>∃ _:Unit,aW Tryz.f95 0 (Qz ((cO k ps ns).getD []) (cO k ps ns).isSome) [] e φ σ1) (EO ns.length C) (yW k ps ns C):=by
  refine AW.top (AW.mono (Q:=aW Tryz.f95 0 (Qz ((cO k ps ns).getD []) (cO k ps ns).isSome) []) (AK.of_code ?_) λ_ _ _ q=>⟨(),q⟩)
  refine bw rfl (show _<=_ by omega) ?_
  refine AK.x9 29 2 (bf:=.row C ns.length) (n:=ns.length) (k:=2) (KP k ps ns) rfl rfl (λi hi=>⟨rfl,λM j c x m t=>?_⟩) ?_
  ·exact KQ hi m t
  refine AK.lS 12 9 1 rfl rfl ?_;refine AK.bY 6 (λi=>i<=ns.length/\∀ j,j<i->(b9 k ps (ns.getD j 0)).isSome=true) (λi:Nat=>[(29,.e (.one (.c (.sl false 2 ns.length (KP k ps ns))))),(30,dI ns.length),(31,dI i),(12,.e (.one (.vec 5 1 (pB k ps (ns.take i)).length (cS.fn (pB k ps (ns.take i))))))]) (λi=>[.dead,.dead,.dead,.dead,.dead,.vec 9 1 (pB k ps (ns.take i)).length (cS.fn (pB k ps (ns.take i)))]) (λi=>ns.length-i) 0 rfl ?_ rfl ?_ rfl ⟨by omega,by omega⟩ ?_
  ·simp[aa.cat,aa,ay,ay.same,pB]
  ·simp[aa.cat,aa,ay,pB]
  rintro i ⟨hi,a⟩
  by_cases h:i<ns.length
  ·cases l:(b9 k ps (ns.getD i 0)).isSome with
   |true =>
    have f:pB k ps (ns.take (i+1))=pB k ps (ns.take i)++[(b9 k ps (ns.getD i 0)).getD []]:=by
     unfold pB;rw[lA,aj h,ni];simp only[nd,iO,jz,List.getD_eq_getElem?_getD,aj h,cp]
    have u:(pB k ps (ns.take i)).length<=4000000:=by simp[pB];omega
    refine aF [(32,true),(37,false)] 200 rfl ?_ (AK.aA (i+1) rfl ?_ rfl rfl rfl ?_ rfl ?_ ?_)
    ·simp[-List.getD_eq_getElem?_getD,aa,h,KP,l,aB];have:i9.bytes=16:=rfl;rw[this];omega
    ·rw[f];simp[-List.getD_eq_getElem?_getD,aa.cat,aa,ay.same,KP];exact cS.eU _ _
    ·rw[f];simp[-List.getD_eq_getElem?_getD,aa.cat,aa,ay.same,KP];exact cS.eU _ _
    ·refine⟨by omega,λj d=>?_⟩
     rcases dG.1 d with d|rfl
     ·exact a j d
     ·exact l
    ·omega
   |false =>
    refine aF [(32,true),(37,true)] 200 rfl ?_ (AK.cV (aW.zero rfl ?_))
    ·simp[-List.getD_eq_getElem?_getD,aa,h,KP,l]
    ·have r:cO k ps ns=none:=by
      unfold cO;rw[an];intro m;have:=List.all_eq_true.1 m (ns.getD i 0) (by simp[List.getD_eq_getElem?_getD,aj h])
      rw[l] at this;cases this
     simp[aa.cat,aa,r]
  ·have p:i=ns.length:=by omega
   subst p;refine aF [(32,false)] 200 rfl (by simp[aa]) (AK.leaveD rfl rfl ?_)
   refine eX rfl ab (AK.au rfl ?_);have g:cO k ps ns=some (pB k ps ns):=by
    unfold cO;rw[aq]
    ·rfl
    ·rw[List.all_eq_true];intro n o;obtain⟨j,d,rfl⟩:=jV.1 o;have:=a j d;simpa[List.getD_eq_getElem?_getD,aj d] using this
   simp[aa.cat,aa,g,ay.same]
 exact mF.le (σ:=vb k ps ns C xs) (NI (xs:=xs) s v b) (cm rfl (by simp[aa.cat,aa,ay.same]))
end Go.AM.R1
namespace Go.AM.R1
theorem gq(a:UInt8)(s:Bs):fh (a::s)=if a=47 then 0 else if fh s=-1 then -1 else fh s+1:=by
 unfold fh;rw[Lib.indexByte.eq_def];simp
theorem qg:fh []=-1:=by unfold fh;rw[Lib.indexByte.eq_def]
theorem BX(s:Bs):cX s=cv s:=by
 by_cases i:s.length<=3
 ·match s,i with
  |[],_=>simp[cX,cv,bh,fZ,qg]
  |[a],_ =>
   by_cases d:a=47
   ·subst d;simp[cX,cv,bh,fZ,jN,gE,gq,ji,bd]
   ·simp[cX,cv,bh,fZ,gE,gq,qg,d,ji,bd]
  |[a,b],_ =>
   by_cases d:a=47
   ·subst d;simp[cX,cv,bh,fZ,jN,gE,gq]
   ·by_cases e:b=47
    ·subst e;simp[cX,cv,bh,fZ,jN,gE,gq,d]
    ·simp[cX,cv,bh,fZ,gE,gq,qg,d,e]
  |[a,b,c],_ =>
   by_cases d:a=47
   ·subst d;simp[cX,cv,bh,fZ,jN,gE,gq,ji,bd]
   ·by_cases e:b=47
    ·subst e;simp[cX,cv,bh,fZ,jN,gE,gq,d,ji,bd]
    ·have f:¬(b.toNat:Int)=47:=by
      intro h;apply e;apply l7.1;simp;omega
     by_cases g:c=47
     ·subst g;simp[cX,cv,bh,fZ,jN,gE,gq,d,e,ji,bd]
     ·simp[cX,cv,bh,fZ,gE,gq,qg,d,e,g,f,ji,bd]
  |_::_::_::_::_,h=>simp at h
 ·have k:cv s=false:=by unfold cv;rw[an (by omega),an (by omega)]
  rw[k];cases j:cX s with
  |false=>rfl
  |true=>exact absurd (o8 j) i
end Go.AM.R1
namespace Go.AM
theorem nW(a:Bs):Op.bytesLess a []=false:=by rw[Op.bytesLess.eq_def]
theorem rC(b:UInt8)(l:Bs):Op.bytesLess [] (b::l)=true:=by rw[Op.bytesLess.eq_def]
theorem nY(a b:UInt8)(x y:Bs):Op.bytesLess (a::x) (b::y)=(decide (a<b)||a==b&&Op.bytesLess x y):=by rw[Op.bytesLess.eq_def]
theorem mv:∀ a:Bs,Op.bytesLess a a=false
 |[]=>nW []
 |a::l=>by rw[nY,mv l];simp
theorem wS:∀ a b:Bs,Op.bytesLess a b=true∨a=b∨Op.bytesLess b a=true
 |[],[]=>.inr (.inl rfl)
 |[],b::y=>.inl (rC b y)
 |a::x,[]=>.inr (.inr (rC a x))
 |a::x,b::y=>by
  rw[nY,nY];rcases wS x y with h|h|h
  ·by_cases c:a=b
   ·subst c;left;simp[h]
   ·rcases ub c with d|d
    ·left;simp[d]
    ·right;right;simp[d]
  ·subst h
   by_cases c:a=b
   ·subst c;right;left;rfl
   ·rcases ub c with d|d
    ·left;simp[d]
    ·right;right;simp[d]
  ·by_cases c:a=b
   ·subst c;right;right;simp[h]
   ·rcases ub c with d|d
    ·left;simp[d]
    ·right;right;simp[d]
theorem rD:∀ {a b c:Bs},Op.bytesLess a b=true->Op.bytesLess b c=true->Op.bytesLess a c=true
 |a,b,[],_,d=>by rw[nW] at d;cases d
 |a,[],c::z,e,_=>by rw[nW] at e;cases e
 |[],b::y,c::z,_,_=>rC c z
 |a::x,b::y,c::z,e,d=>by
  rw[nY,kL,bF,aD,gf] at e d ⊢;rcases e with e|⟨rfl,e⟩
  ·rcases d with d|⟨rfl,d⟩
   ·exact .inl (UInt8.lt_trans e d)
   ·exact .inl e
  ·rcases d with d|⟨rfl,d⟩
   ·exact .inl d
   ·exact .inr ⟨rfl,rD e d⟩
theorem wT{a b:Bs}(h:Op.bytesLess a b=true):Op.bytesLess b a=false:=by
 cases c:Op.bytesLess b a with
 |false=>rfl
 |true=>have:=rD h c;rw[mv] at this;cases this
theorem K1{a b:Bs}:(!(Op.bytesLess b a||b==a))=Op.bytesLess a b:=by
 rcases wS a b with h|h|h
 ·have c:(b==a)=false:=by
   simp only[eZ,cf];rintro rfl;rw[mv] at h;cases h
  rw[h,wT h,c];rfl
 ·subst h;simp[mv]
 ·rw[h,wT h];rfl
namespace R1
theorem QC{t:List di}{i:Nat}(h:∀ k,0<k->k<=i->Op.bytesLess (eh t (k-1)) (eh t k)=true):∀ j,j<i->Op.bytesLess (eh t j) (eh t i)=true:=by
 intro j f
 induction i with
 |zero=>omega
 |succ i d =>
  have c:=h (i+1) (by omega) (ar _)
  simp only[lz] at c
  by_cases e:j=i
  ·subst e;exact c
  ·exact rD (d (λk a b=>h k a (by omega)) (by omega)) c
theorem pa{s:Bs}(h:cv s=true):(∃ a,s=[a])∨∃ a b,s=[a,47,b]:=by
 unfold cv at h;split at h
 ·rename_i d
  match s,d with
  |[a],_=>exact .inl ⟨a,rfl⟩
 ·split at h
  ·rename_i d
   match s,d with
   |[a,b,c],_ =>
    right
    simp[ji,bd] at h;have e:b=47:=by apply l7.1;simp;omega
    exact⟨a,c,by rw[e]⟩
  ·cases h
theorem wU{p q:Bs}(g:cv p=true)(i:cv q=true)(f:Op.bytesLess p q=true):clash p q=under q p:=by
 rcases pa g with⟨a,rfl⟩|⟨a,b,rfl⟩ <;> rcases pa i with⟨c,rfl⟩|⟨c,d,rfl⟩
 ·simp[clash,under,iq]
 ·by_cases e:a=c
  ·subst e;simp[clash,under,iq,bd]
  ·have:¬(a.toNat:Int)=c.toNat:=λh=>e (l7.1 (by omega))
   have k:((a.toNat:Int)==(c.toNat:Int))=false:=by rw[eZ];exact this
   have j:(c==a)=false:=by rw[eZ];exactλh=>e h.symm
   simp[clash,under,iq,bd];rw[k,j]
 ·have:¬(a.toNat:Int)=c.toNat:=by
   intro h;have e:a=c:=l7.1 (by omega)
   subst e;rw[nY,nW] at f;simp at f
  simp[clash,under,iq,bd,this]
 ·simp[clash,under,iq]
theorem tm{t:List di}{i:Nat}(b:∀ j,j<i->fC t j=true):fN t i=fC t i:=by
 unfold fN fC;rw[BX,K1];cases m:cv (eh t i) with
 |false=>simp
 |true =>
  cases n:dm (HT t i) with
  |false=>simp
  |true =>
   cases f:(i==0||Op.bytesLess (eh t (i-1)) (eh t i)) with
   |false=>simp
   |true =>
    simp only[ck];have l:∀ j,j<i->Op.bytesLess (eh t j) (eh t i)=true:=by
     apply QC
     intro k o g
     by_cases e:k=i
     ·subst e;have:(k==0)=false:=by simp;omega
      rw[this,pS] at f;exact f
     ·have:=b k (by omega)
      simp only[fC,bF,kL,gf] at this;exact this.1.2.resolve_left (by omega)
    rw[lE,ba,ba];have d:∀ j,j<i->clash (eh t j) (eh t i)=under (eh t i) (eh t j):=by
     intro j a;have c:cv (eh t j)=true:=by
      have:=b j a;simp only[fC,bF] at this;exact this.1.1.1
     exact wU c m (l j a)
    constructor
    ·intro h j a;rw[d j a];exact h j a
    ·intro h j a;rw[<-d j a];exact h j a
theorem BM(t:List di):lg t=im t:=by
 unfold lg im
 congr 1
 rw[lE,ba,ba]
 constructor
 ·intro h i
  induction i using Nat.strongRecOn with
  |_ i b=>intro hi;rw[<-tm (λj a=>b j a (by omega))];exact h i hi
 ·intro h i hi;rw[tm (λj a=>h j (by omega))]
  exact h i hi
end R1
end Go.AM
namespace Go.AM.R1
open Go.Proofs
variable {X:Cx Tryz.prog}
def fileOf(k:Int)(ps:List aR)(x:cN):Option di:=match cO k ps x.2 with
 |none=>none
 |some l=>match dY l with
  |none=>none
  |some t=>some (x.1,t)
def bR(k:Int)(ps:List aR)(l:List cN):List di:=l.map λx=>(fileOf k ps x).getD ([],[])
def b0(k:Int)(s:cy)(ps:List aR):Option (List di) :=
 if bO k&&s.2.all (λx=>(fileOf k ps x).isSome)&&im (bR k ps s.2) then some (bR k ps s.2) else none
abbrev Nv(a:List di)(b:Bool):D:=.eD [.one (.c (.sl false 2 a.length (cF.fn a))),.one (.c (.bool b))]
abbrev KF(s:cy):D:=.e (.agg [.c (.int .i64 s.1),.c (.sl false 2 s.2.length (cL.fn s.2))])
theorem l0{k:Int}{ps:List aR}{l:List cN}{i:Nat}(h:i<l.length):bR k ps (l.take (i+1))=bR k ps (l.take i)++[(fileOf k ps (l.getD i ([],[]))).getD ([],[])]:=by
 unfold bR;rw[lA,aj h,ni];simp only[nd,iO,jz,List.getD_eq_getElem?_getD,aj h,cp]
theorem l3{k:Int}{ps:List aR}{s:cy}{i:Nat}(h:i<s.2.length)(b:fileOf k ps (s.2.getD i ([],[]))=none):b0 k s ps=none:=by
 unfold b0;rw[an];intro a;simp only[bF] at a;have:=List.all_eq_true.1 a.1.2 (s.2.getD i ([],[])) (by rw[List.getD_eq_getElem?_getD,aj h];exact gF h)
 rw[b] at this;cases this
theorem sk{k:Int}{ps:List aR}{ns:List Int}{l:List Bs}(h:cO k ps ns=some l)(b:ns.length<=4000000):l.flatten.length<=140737488355328/\l.length<=4000000:=by
 unfold cO at h;split at h
 ·rename_i a
  cases h;refine⟨?_,by simpa using b⟩
  have key:∀ ns:List Int,(ns.all λn=>(b9 k ps n).isSome)=true->(ns.map λn=>(b9 k ps n).getD []).flatten.length<=8*ns.length:=by
   intro ns
   induction ns with
   |nil=>intro _;simp
   |cons n ns ih =>
    intro h;simp only[List.all_cons,bF] at h;have:=ih h.2;have c:=tg (k:=k) (ps:=ps) (n:=n);simp only[iO,List.flatten_cons,bc,fa];omega
  have:=key ns a;omega
 ·cases h
theorem wL(k:Int)(s:cy)(ps:List aR)(K:s.2.length<=4000000)(I:∀ x∈s.2,x.2.length<=4000000) :
  Ev (Cx.beside Tryz.prog) 75 [dI k,KF s,cP.sl ps] [] (Nv ((b0 k s ps).getD []) (b0 k s ps).isSome) []:=by
 refine Ev.body Tryz.func75 rfl rfl rfl λJ=>?_
 have D:=J.sl 2 rfl;have b:aO (Cx.beside Tryz.prog) [(53,fY aI (λk=>dB (bO k)) λ_=>[])]:=.cons t53 .nil
 cases o:bO k with
 |false =>
  refine af b [(15,false),(16,true)] 100 rfl ?_ (AK.au rfl ?_)
  ·simp[aa,o]
  ·simp[aa,aa.cat,b0,o]
 |true =>
  have v:bU (Cx.work Tryz.prog) 129 (jg k):=KB Nl o;refine af b [(15,true),(16,false),(1000004,true)] 100 rfl ?_ ?_
  ·simp[aa,o]
  refine AK.lS 8 148 2 rfl rfl ?_;refine af b [] 100 rfl ab ?_;refine AK.bY 2 (λi=>i<=s.2.length/\∀ j,j<i->(fileOf k ps (s.2.getD j ([],[]))).isSome=true) (λi:Nat=>[(0,dI k),(2,cP.sl ps),(4,.e (.one (.ptr 0 0))),(8,.e (.one (.vec 1 2 (bR k ps (s.2.take i)).length (cF.fn (bR k ps (s.2.take i)))))),(18,cL.sl s.2),(19,dI s.2.length),(20,dI i)]) (λi=>[.cells 83 [.c (.int .i64 s.1),.c (.sl false 2 s.2.length (cL.fn s.2))],.vec 148 2 (bR k ps (s.2.take i)).length (cF.fn (bR k ps (s.2.take i)))]) (λi=>s.2.length-i) 0 rfl ?_ rfl ?_ rfl ⟨by omega,by omega⟩ ?_
  ·simp[aa.cat,aa,ay.same,ay.nil,bR]
  ·simp[aa.cat,aa,ay.same,ay.nil,bR]
  rintro i ⟨hi,g⟩
  by_cases h:i<s.2.length
  ·have q:s.2.getD i ([],[])∈s.2:=by rw[List.getD_eq_getElem?_getD,aj h];exact gF h
   generalize a:s.2.getD i ([],[])=x at q;have n:=I x q;have f:=wM v ps x.2 n;cases d:cO k ps x.2 with
   |none =>
    rw[d] at f;refine af b [(21,true)] 100 rfl ?_ ?_
    ·exact⟨by omega,by omega,aQ (by omega)⟩
    refine AK.aP (a▸f) [] rfl rfl rfl rfl rfl rfl rfl rfl rfl rfl rfl ?_;refine af b [(33,true)] 100 rfl ?_ (AK.cV (aW.zero rfl ?_))
    ·simp[aa]
    ·have e:fileOf k ps x=none:=by simp[fileOf,d]
     rw[l3 h (by rw[a];exact e)]
     simp[aa,aa.cat]
   |some l =>
    obtain⟨r,G⟩:=sk d n;rw[d] at f;have u:=yR (X:=Cx.beside Tryz.prog) l r;refine af b [(21,true)] 100 rfl ?_ ?_
    ·exact⟨by omega,by omega,aQ (by omega)⟩
    refine AK.aP (a▸f) [] rfl rfl rfl rfl rfl rfl rfl rfl rfl rfl rfl ?_;refine af b [(33,false)] 100 rfl ?_ ?_
    ·simp[aa]
    refine AK.aP u [] rfl rfl rfl rfl rfl rfl rfl rfl rfl rfl rfl ?_;cases A:dY l with
    |none =>
     refine af b [(40,true)] 100 rfl ?_ (AK.cV (aW.zero rfl ?_))
     ·simp[aa]
     ·have e:fileOf k ps x=none:=by simp[fileOf,d,A]
      rw[l3 h (by rw[a];exact e)]
      simp[aa,aa.cat]
    |some t =>
     have e:fileOf k ps x=some (x.1,t):=by simp[fileOf,d,A]
     have E:s.2.getD (i:Int).toNat cL.bD=x:=a;have H:(bR k ps (s.2.take i)).length<=4000000:=by simp[bR];omega
     have B:ay ((bR k ps (s.2.take i)).length+1) (cz (bR k ps (s.2.take i)).length (cF.fn (bR k ps (s.2.take i))) λw=>[[C.str (s.2.getD (i:Int).toNat cL.bD).1,C.str ((some t).getD [])]].getD w []) (cF.fn (bR k ps (s.2.take (i+1)))):=by
      rw[l0 h,a,e,E];exact cF.eU (bR k ps (s.2.take i)) (x.1,t)
     have z:(bR k ps (s.2.take i)).length+1=(bR k ps (s.2.take (i+1))).length:=by rw[l0 h];simp
     refine af b [(40,false)] 100 rfl ?_ (AK.aA (i+1) rfl ?_ rfl rfl rfl ?_ rfl ?_ ?_)
     ·refine⟨by simp only[aB];omega,rfl,rfl,?_,rfl⟩
      show _*32<=_;omega
     ·refine aa.cat.2 ⟨rfl,aa.cat.2 ⟨⟨rfl,ay.same⟩,aa.cat.2 ⟨ab,aa.cat.2 ⟨⟨z,B⟩,aa.cat.2 ⟨⟨rfl,ay.same⟩,aa.cat.2 ⟨rfl,aa.cat.2 ⟨?_,ab⟩⟩⟩⟩⟩⟩⟩;simp[aa]
     ·exact aa.cat.2 ⟨aa.cat.2 ⟨rfl,aa.cat.2 ⟨⟨rfl,ay.same⟩,ab⟩⟩,aa.cat.2 ⟨⟨z,B⟩,ab⟩⟩
     ·refine⟨by omega,λj m=>?_⟩
      rcases dG.1 m with m|rfl
      ·exact g j m
      ·rw[a,e];rfl
     ·omega
  ·have e:i=s.2.length:=by omega
   subst e;refine af b [(21,false)] 100 rfl (by simp[aa]) (AK.leaveD rfl rfl ?_)
   rw[cZ];have p:=yS (X:=Cx.beside Tryz.prog) (bR k ps s.2);rw[BM] at p;refine af b [] 100 rfl ab ?_;refine AK.aP p [] rfl rfl rfl rfl rfl rfl rfl rfl rfl rfl rfl ?_;have F:s.2.all (λx=>(fileOf k ps x).isSome)=true:=List.all_eq_true.2 λx q=>by
    obtain⟨j,m,rfl⟩:=jV.1 q;have:=g j m;simpa[List.getD_eq_getElem?_getD,aj m] using this
   cases y:im (bR k ps s.2) with
   |false =>
    refine af b [(51,true)] 100 rfl ?_ (AK.au rfl ?_)
    ·simp[aa]
    ·simp[aa,aa.cat,b0,y]
   |true =>
    refine af b [(51,false)] 100 rfl ?_ (AK.au rfl ?_)
    ·simp[aa]
    ·simp[aa,aa.cat,b0,y,o,F,ay.same]
abbrev cM:=List aR×List cy×List (Int×Int)
def rn(s:cM):Prop:=∀ x∈s.2.1,x.2.length<=4000000/\∀ y∈x.2,y.2.length<=4000000
abbrev BN(s:cM):D:=.e (.agg [.c (.sl false 2 s.1.length (cP.fn s.1)),.c (.sl false 2 s.2.1.length (cG.fn s.2.1)),.c (.sl false 2 s.2.2.length (cH.fn s.2.2))])
def th:bH:=CY aI (na cL) (aL cP) (λk s ps=>Nv ((b0 k s ps).getD []) (b0 k s ps).isSome) λ_ s _=>[s.2.length<=4000000,∀ x∈s.2,x.2.length<=4000000]
theorem BO:bU (Cx.beside Tryz.prog) 75 th:=.Je λk s ps h=>wL k s ps h.1 h.2
def Ay:Arg cM:=⟨BN,λd=>match d with
 |.e (.agg [.c a,.c b,.c c])=>match jL 2 (.e (.one (.c a))) with
  |some (j,m)=>match jL 2 (.e (.one (.c b))) with
   |some (i,k)=>match jL 2 (.e (.one (.c c))) with
    |some (n,l)=>some ((cP.list j m,cG.list i k,cH.list n l),[cP.fits j m,cG.fits i k,cH.fits n l])
    |none=>none
   |none=>none
  |none=>none
 |_=>none,λ{d a o} h g σ s v r=>by
 split at h
 ·split at h
  ·rename_i j m y
   split at h
   ·rename_i i k x
    split at h
    ·rename_i n l w
     cases h;obtain⟨vs,p,f⟩:=r
     match vs,f with
     |[],f=>exact f.elim
     |[_],f=>exact f.2.elim
     |[_,_],f=>exact f.2.2.elim
     |_::_::_::_::_,f=>exact f.2.2.2.elim
     |[u,t,q],f =>
      exact⟨_,p,cP.jf (σ:=[]) (s:=s) (v:=u) y g.1 f.1,cG.jf (σ:=[]) (s:=s) (v:=t) x g.2.1 f.2.1,cH.jf (σ:=[]) (s:=s) (v:=q) w g.2.2 f.2.2.1,ab⟩
    ·cases h
   ·cases h
  ·cases h
 ·cases h⟩
abbrev dT(p:aR)(i:Nat):ew:=p.2.getD i (0,[])
def gp(k:Int)(p:aR)(i:Nat):Bool:=right k (dT p i)&&(i==0||decide ((dT p (i-1)).1<(dT p i).1))
theorem oE(k:Int)(p:aR):gO k p=((List.range p.2.length).all (gp k p)&&(bO k&&decide (1<=p.1)&&decide (p.1<=99)&&decide (1<=p.2.length)&&decide (p.2.length<=4))):=by
 have e:(p.2.all (right k)&&u9 (p.2.map (·.1)))=(List.range p.2.length).all (gp k p):=by
  rw[lE,bF,List.all_eq_true,List.all_eq_true];unfold u9;rw[List.all_eq_true];have a:∀ i,i<p.2.length->(p.2.map (·.1)).getD i 0=(dT p i).1:=λi hi=>by simp[List.getD_eq_getElem?_getD,aj hi]
  constructor
  ·rintro⟨f,d⟩ i hi;have hi:=l8.1 hi;have q:=d i (by simpa using hi)
   rw[a i hi] at q;unfold gp;rw[f (dT p i) (by simp only[dT,List.getD_eq_getElem?_getD,aj hi,cp];exact gF hi),ck]
   rcases ig i with rfl|c
   ·rfl
   ·rw[a (i-1) (by omega)] at q;exact q
  ·intro h;refine⟨λx b=>?_,λi hi=>?_⟩
   ·obtain⟨i,hi,rfl⟩:=jV.1 b;have:=h i (l8.2 hi);simp only[gp,bF] at this;simpa[dT,List.getD_eq_getElem?_getD,aj hi] using this.1
   ·have hi:i<p.2.length:=by simpa using hi
    have:=h i (l8.2 hi);simp only[gp,bF] at this;rw[a i hi];rcases ig i with rfl|c
    ·rfl
    ·rw[a (i-1) (by omega)];exact this.2
 rw[<-e];unfold gO;cases bO k <;> cases decide (1<=p.1) <;> cases decide (p.1<=99) <;> cases decide (1<=p.2.length) <;> cases decide (p.2.length<=4) <;> simp
theorem ti{k:Int}{p:aR}{i:Nat}(hi:i<p.2.length)(h:gp k p i=false):gO k p=false:=by
 rw[oE];cases a:(List.range p.2.length).all (gp k p) with
 |false=>rfl
 |true =>
  have:=List.all_eq_true.1 a i (l8.2 hi);rw[h] at this;cases this
theorem m4{k:Int}{x:ew}(a:bO k=true):(chunk k x).isSome=right k x:=by
 unfold chunk right;cases c8 x.2 with
 |none=>rfl
 |some q =>
  simp only[a,ck];split
  ·rename_i h;rw[h];rfl
  ·rename_i h;simp only[kJ] at h;rw[h];rfl
theorem BQ(k:Int)(p:aR)(a:bO k=true)(v:p.2.length<=4000000):Ev X 71 [dI k,Jf p] [] (dB (gO k p)) []:=by
 refine Ev.body Tryz.func71 rfl rfl rfl λy=>?_
 have b:aO X [(53,fY aI (λk=>dB (bO k)) λ_=>[]),(91,ga yJ aI (λx k=>u6 (chunk k x)) λ_ k=>[bO k=true])]:=.cons t53 (.cons (Ez Nl) .nil)
 refine af b [] 100 rfl ab ?_;refine AK.bY 1 (λi=>i<=p.2.length/\∀ j,j<i->gp k p j=true) (λi:Nat=>[(0,dI k),(3,.e (.one (.ptr 0 0))),(10,cK.sl p.2),(11,dI p.2.length),(12,dI i)]) (λ_=>[.cells 73 [.c (.int .i64 p.1),.c (sP p)]]) (λi=>p.2.length-i) 0 rfl ?_ rfl ?_ rfl ⟨by omega,by omega⟩ ?_
 ·simp[aa.cat,aa,ay.same]
 ·simp[aa.cat,aa,ay.same]
 rintro i ⟨hi,g⟩
 by_cases h:i<p.2.length
 ·cases m:right k (dT p i) with
  |false =>
   have n:(chunk k (dT p i)).isSome=false:=by rw[m4 a];exact m
   refine af b [(13,true),(24,true),(40,true)] 100 rfl ?_ (AK.cV (aW.zero rfl ?_))
   ·refine⟨rfl,?_,a,by omega,by omega,aQ (by omega)⟩
    show (!(chunk k (dT p i)).isSome)=true;rw[n];rfl
   ·rw[ti h (by simp only[gp,m,kP])]
    simp[aa]
  |true =>
   have n:(!(chunk k (dT p i)).isSome)=false:=by rw[m4 a,m];rfl
   by_cases u:i=0
   ·subst u;refine af b [(13,true),(24,false),(27,false),(40,false)] 100 rfl ?_ (AK.aA 1 rfl ?_ rfl rfl rfl ?_ rfl ⟨by omega,λj l=>?_⟩ (by omega))
    ·simp only[aa,aB];refine⟨by omega,ab,by simp,n,a,by omega,by omega,aQ (by omega)⟩
    ·simp[aa.cat,aa,ay.same]
    ·simp[aa.cat,aa,ay.same]
    ·have:j=0:=by omega
     subst this;simp only[gp,m,ck];rfl
   ·have s:((i:Int)-1).toNat=i-1:=by omega
    cases o:decide ((dT p (i-1)).1<(dT p i).1) with
    |false =>
     refine af b [(13,true),(24,false),(27,true),(38,true),(40,true)] 100 rfl ?_ (AK.cV (aW.zero rfl ?_))
     ·have q:(p.2.getD ((i:Int)-1).toNat cK.bD).1=(dT p (i-1)).1:=by rw[s];rfl
      refine⟨rfl,aQ ?_,by omega,by omega,by simp only[aB];omega,aQ (by omega),n,a,by omega,by omega,aQ (by omega)⟩
      rw[q];show (dT p i).1<=_;exact Int.not_lt.1 (of_decide_eq_false o)
     ·rw[ti h (by simp only[gp,m,o,ck,Bool.or_false];simpa using u)]
      simp[aa]
    |true =>
     refine af b [(13,true),(24,false),(27,true),(38,false),(40,false)] 100 rfl ?_ (AK.aA (i+1) rfl ?_ rfl rfl rfl ?_ rfl ⟨by omega,λj l=>?_⟩ (by omega))
     ·have q:(p.2.getD ((i:Int)-1).toNat cK.bD).1=(dT p (i-1)).1:=by rw[s];rfl
      refine⟨by simp only[aB];omega,rfl,bV ?_,by omega,by omega,by simp only[aB];omega,aQ (by omega),n,a,by omega,by omega,aQ (by omega)⟩
      rw[q];show ¬(dT p i).1<=_;exact Int.not_le.2 (kH o)
     ·simp[aa.cat,aa,ay.same]
     ·simp[aa.cat,aa,ay.same]
     ·rcases dG.1 l with l|rfl
      ·exact g j l
      ·simp only[gp,m,o,ck,Bool.or_true]
 ·have e:i=p.2.length:=by omega
  subst e;refine af b [(13,false)] 100 rfl (by simp[aa]) (AK.leaveD rfl rfl ?_)
  have w:(List.range p.2.length).all (gp k p)=true:=List.all_eq_true.2 λj l=>g j (l8.1 l)
  rw[oE,w,a]
  by_cases d:1<=p.1
  ·by_cases f:p.1<=99
   ·by_cases r:1<=p.2.length
    ·by_cases t:p.2.length<=4
     ·refine af b [(43,true),(47,true),(52,true),(58,true),(64,true)] 100 rfl ?_ (AK.au rfl ?_)
      ·exact⟨aQ (by omega),aQ (by omega),aQ f,aQ d,a⟩
      ·simp[aa,d,f,r,t]
     ·refine af b [(43,true),(47,true),(52,true),(58,true),(64,false)] 100 rfl ?_ (AK.au rfl ?_)
      ·exact⟨bV (by omega),aQ (by omega),aQ f,aQ d,a⟩
      ·simp[aa,d,f,r,t]
    ·refine af b [(43,true),(47,true),(52,true),(58,false)] 100 rfl ?_ (AK.au rfl ?_)
     ·exact⟨bV (by omega),aQ f,aQ d,a⟩
     ·simp[aa,d,f,r]
   ·refine af b [(43,true),(47,true),(52,false)] 100 rfl ?_ (AK.au rfl ?_)
    ·exact⟨bV f,aQ d,a⟩
    ·simp[aa,d,f]
  ·refine af b [(43,true),(47,false)] 100 rfl ?_ (AK.au rfl ?_)
   ·exact⟨bV d,a⟩
   ·simp[aa,d]
def Az:bH:=ga aI (na cK) (λk p=>dB (gO k p)) λk p=>[bO k=true,p.2.length<=4000000]
theorem HI:bU X 71 Az:=.gX λk p h=>BQ k p h.1 h.2
def rz{α:Type}(q:α->Bool)(l:List α):Int:=match l.findIdx? q with|some i=>i|none=>-1
theorem vd{α:Type}{q:α->Bool}{t:List α}{i:Nat}{d:α}(hi:i<t.length)(h:q (t.getD i d)=true)(a:∀ j,j<i->q (t.getD j d)=false):rz q t=i:=by
 have:t.findIdx? q=some i:=by
  rw[tP];refine⟨hi,?_,λj c=>?_⟩
  ·simpa[List.getD_eq_getElem?_getD,aj hi] using h
  ·have b:j<t.length:=by omega
   simpa[List.getD_eq_getElem?_getD,aj b] using a j c
 rw[rz,this]
theorem oG{α:Type}{q:α->Bool}{t:List α}{d:α}(a:∀ j,j<t.length->q (t.getD j d)=false):rz q t=-1:=by
 have:t.findIdx? q=none:=by
  rw[mQ];intro f c;obtain⟨j,b,rfl⟩:=dH c;simpa[List.getD_eq_getElem?_getD,aj b] using a j b
 rw[rz,this]
theorem fb.Jt{ι:Type}{f:FuncId}{fn:Func}{c:Code}{args:List D}{σ:List ak}{σ':ι->List ak}{res:ι->D}(i:Tryz.prog.funcs[f]?=some fn)(a:(fn.name== "runtime.NumGoroutine")=false)(g:fn.body=some c)(b:Nat.ble args.length fn.ntmps=true)
  (h:Fits args σ->AK X fn.ntmps (λe φ σ1=>∃ j,aW fn σ.length (res j) (σ' j) e φ σ1) [.code c] .normal (gC 0 args) σ):fb X f args σ res σ' :=
 fb.yu i a g b λd=>AW.top (AK.of_code (h d))
theorem AK.Lj{ι:Type}{fn:Func}{a:Nat}{res:ι->D}{σ':ι->List ak}{N:Nat}{φ:Fr}{σ:List ak}{K:List It}(i:ι)(k:AK X N (aW fn a (res i) (σ' i)) K .normal φ σ):AK X N (λe φ σ1=>∃ j,aW fn a (res j) (σ' j) e φ σ1) K .normal φ σ :=
 AK.fJ (λ_ _ _ q=>⟨i,q⟩) k
theorem yZ{lo hi j:Nat}{z:List C}{es:Nat->List C}(h:¬(lo<=j/\j<hi)):om lo hi z es j=es j:=an h
theorem bx{α:Type}{l:List α}{i:Nat}(h:i<l.length)(d:α):l.take (i+1)=l.take i++[l.getD i d]:=by
 rw[lA];simp[List.getD_eq_getElem?_getD,aj h]
theorem _root_.Go.AM.jm.KS{α:Type}(c:jm α)(l:List α)(i:Nat)(x:α)(n:Nat)(b:n<=l.length):ay n (fX i (c.enc x) (c.fn l)) (c.fn (l.set i x)):=by
 intro q a;simp only[fX,jm.fn,CZ]
 by_cases e:q=i
 ·subst e;rw[aq rfl];simp[List.getD_eq_getElem?_getD,br (by omega:q<l.length)]
 ·rw[an e,List.getD_eq_getElem?_getD,List.getD_eq_getElem?_getD,b7 (λh=>e h.symm)]
abbrev QA:=Int×Int×Int×Bs
end Go.AM.R1
namespace Go.AM
open Go.Conc (G)
section
variable {P:Program}{X:Cx P}{N:Nat}{ops:Array Oper}{φ:Fr}{σ:List ak}{ι:Type}{x:Nat->D}{c:ι->Nat->D}{σ':ι->List ak}{idx:Nat->Option Nat}{m:Nat}{pre:Nat->Bool}{last:Nat}{σ2:ι->List ak}
structure Hn {P:Program}(X:Cx P)(N:Nat)(ops:Array Oper)(φ:Fr)(σ:List ak){ι:Type}(x:Nat->D)(c:ι->Nat->D)(σ':ι->List ak)(idx:Nat->Option Nat)(m:Nat)(pre:Nat->Bool)(last:Nat)(σ2:ι->List ak):Prop where
 back:∀ i o,ops[i]?=some o->∀ e∈o.after,bt e=true->e.on<i
 pr:∀ i o d,ops[i]?=some o->o.dst=some d->idx d=some i/\d<N
 lq:∀ d i,idx d=some i->∃ o,ops[i]?=some o/\o.dst=some d
 has:m<ops.size
 pm:pre m=false
 cl:∀ i o,ops[i]?=some o->pre i=false->i≠m->∃ e∈o.after,bt e=true/\pre e.on=false
 same:∀ j i,pre i=true->c j i=x i
 one:∀ i o,ops[i]?=some o->pre i=true->OA X N ops.toList o (mE ops.toList φ x i) σ (x i) σ
 two:∀ j i o,ops[i]?=some o->i≠m->i≠last->OA X N ops.toList o (mE ops.toList φ (c j) i) (σ' j) (c j i) (σ' j)
 wz:∀ o,ops[m]?=some o->Ja X N ops.toList o (mE ops.toList φ x m) σ (λj=>c j m) σ'
 Gv:∀ (x:Nat->D) i o,ops[i]?=some o->∀ t σ s v,b5 σ s v (match idx t with|some j=>(if ∃ e∈o.after,bt e=true/\e.on=j then x j else .any)|none=>look φ t)->b5 σ s v (look (mE ops.toList φ x i) t)
 fin:∀ (x:Nat->D) t σ s v,b5 σ s v (match idx t with|some j=>x j|none=>look φ t)->b5 σ s v (look (CX ops.toList φ x) t)
 OK:∀ j o,ops[last]?=some o->OA X N ops.toList o (mE ops.toList φ (c j) last) (σ' j) (c j last) (σ2 j)
 P9:∀ o,ops[last]?=some o->∀ i,i<ops.size->i≠last->(∃ e∈o.after,bt e=true/\e.on=i)∨∃ e∈o.after,bt e=true/\∃ o',ops[e.on]?=some o'/\∃ e'∈o'.after,bt e'=true/\e'.on=i
 M9:last<ops.size
 Qa:pre last=false
 T7:last≠m
theorem Hn.Kh(h:Hn X N ops φ σ x c σ' idx m pre last σ2){H:Goroutine->St->Prop}{b:Frame}{kk:List Item}{cs:List Frame}(M:b.kind≠.early)(j:ι){s0:St}
  (hQ:∀ s a,bg N (σ2 j) s (CX ops.toList φ (c j)) a->ag (σ2 j) s->bq σ s0 (σ2 j) s->db X H (G (b.aT a kk) cs) s) :
  ∀ (fuel:Nat) (L:Array Bool),L.size=ops.size->(L.toList.filter (λb=>!b)).length<=fuel->L.getD m false=true->¬L.getD last false=true ->
   (∀ i o,ops[i]?=some o->L.getD i false=true->∀ e∈o.after,bt e=true->L.getD e.on false=true) ->
   ∀ (s:St) (a:Act),x0 N (σ' j) s (dh φ (c j) idx L) a->ag (σ' j) s->bq σ s0 (σ' j) s ->
   ∀ t,db X H (G (b.aT a (.inRegion ops (Region.linearise.go .any ops fuel t L [])::kk)) cs) s:=by
 have fin:∀ (L:Array Bool) (s:St) (a:Act),(∀ i,i<ops.size->L.getD i false=true)->x0 N (σ2 j) s (dh φ (c j) idx L) a->ag (σ2 j) s->bq σ s0 (σ2 j) s->db X H (G (b.aT a (.inRegion ops []::kk)) cs) s:=by
  intro L s a g n hh st;have V:bg N (σ2 j) s (CX ops.toList φ (c j)) a:=n.Bd λt σ s v u=>h.fin (c j) t σ s v (by
   unfold dh at u;cases hi:idx t with
   |none=>simpa[hi] using u
   |some k =>
    simp only[hi] at u ⊢;obtain⟨o,l,_⟩:=h.lq _ _ hi;rw[aq (g k (dF.1 l).1)] at u;exact u)
  exact .ctl hh rfl (λ_=>dN) λs1 E=>hQ s1 a (V.rely E hh) (hh.rely E) (st.trans E.stepW)
 intro fuel
 induction fuel with
 |zero =>
  intro L T V W w B s a n hh st t;exact absurd (iD T V last h.M9) w
 |succ fuel ih =>
  intro L T V W w B s a n hh st t;rw[iY];cases y:(Region.ready .any ops L)[t % (Region.ready .any ops L).length]? with
  |none=>exact absurd (nV (back:=h.back) T (k9 y) last h.M9) w
  |some i =>
   have hi:=aG y;obtain⟨o,l,O,f⟩:=mem_ready.1 hi;have oR:i<ops.size:=(dF.1 l).1;have z:¬L.getD i false=true:=by
    simp only[bA,bJ (by omega:i<L.size),cp] at O ⊢
    simp[O]
   have T8:i≠m:=by rintro rfl;exact z W
   have r:((L.setIfInBounds i true).toList.filter (λb=>!b)).length<=fuel:=by
    have h1:L.toList[i]?=some false:=by
     rw[ly,bJ (by omega:i<L.size)]
     simpa[bA,bJ (by omega:i<L.size)] using z
    have:=count_set h1;rw[mP];omega
   have Q:∀ j J,ops[j]?=some J->(L.setIfInBounds i true).getD j false=true->∀ e∈J.after,bt e=true->(L.setIfInBounds i true).getD e.on false=true:=by
    intro j J q hj e I M;rw[bG (by omega)] at hj ⊢
    rcases hj with rfl|hj
    ·rw[l] at q;cases q;exact .inr (f e I M)
    ·exact .inr (B j J q hj e I M)
   have S:bg N (σ' j) s (mE ops.toList φ (c j) i) a:=qb (h.Gv (c j) i o l) n f
   by_cases C:i=last
   ·subst C;have g:∀ k,k<ops.size->(L.setIfInBounds i true).getD k false=true:=λk hk=>by
     rw[bG (by omega)]
     by_cases e:k=i
     ·exact .inl e
     ·rcases h.P9 o l k hk e with⟨U,I,A,rfl⟩|⟨U,I,A,J,q,e2,Z,K,rfl⟩
      ·exact .inr (f U I A)
      ·exact .inr (B U.on J q (f U I A) e2 Z K)
    have R:=wA (ops:=ops) (fuel:=fuel) (t:=t / (Region.ready .any ops L).length) (L:=L.setIfInBounds i true) (λk hk=>by
     have:=g k hk;simp only[bA] at this ⊢;rw[bJ (by simp;omega)] at this ⊢
     exact this)
    show db X H (G (b.aT a (.inRegion ops (i::Region.linearise.go .any ops fuel (t / (Region.ready .any ops L).length) (L.setIfInBounds i true) [])::kk)) cs) s;rw[R];have:=h.OK j o l s a S hh b kk cs H i [] M (by simpa using l)
    simp only[jW] at this;exact this λv s' u F p=>fin _ s' _ g (gN (λd Y=>h.pr i o d l Y) h.lq l (by omega) (λ_ _=>rfl) hh.len p n u) F (st.trans p)
   have:=h.two j i o l T8 C s a S hh b kk cs H i (Region.linearise.go .any ops fuel (t / (Region.ready .any ops L).length) (L.setIfInBounds i true) []) M (by simpa using l)
   simp only[jW] at this;exact this λv s' u F p=>ih _ (by simp[T]) r ((bG (by omega)).2 (.inr W)) (by rw[bG (by omega)];rintro(e|e);exact C e.symm;exact w e) Q s' _
    (gN (λd Y=>h.pr i o d l Y) h.lq l (by omega) (λ_ _=>rfl) hh.len p n u) F (st.trans p) _
theorem Hn.M8(h:Hn X N ops φ σ x c σ' idx m pre last σ2){J:Goroutine->St->Prop}{b:Frame}{kk:List Item}{cs:List Frame}(y:b.kind≠.early){s0:St}
  (U:∀ j s a,bg N (σ2 j) s (CX ops.toList φ (c j)) a->ag (σ2 j) s->bq σ s0 (σ2 j) s->db X J (G (b.aT a kk) cs) s) :
  ∀ (fuel:Nat) (L:Array Bool),L.size=ops.size->(L.toList.filter (λb=>!b)).length<=fuel->¬L.getD m false=true->(∀ i,L.getD i false=true->pre i=true) ->
   (∀ i o,ops[i]?=some o->L.getD i false=true->∀ e∈o.after,bt e=true->L.getD e.on false=true) ->
   ∀ (s:St) (a:Act),x0 N σ s (dh φ x idx L) a->ag σ s->bq σ s0 σ s ->
   ∀ t,db X J (G (b.aT a (.inRegion ops (Region.linearise.go .any ops fuel t L [])::kk)) cs) s:=by
 intro fuel
 induction fuel with
 |zero =>
  intro L A S M C H s a p hh st t;exact absurd (iD A S m h.has) M
 |succ fuel ih =>
  intro L A S M C H s a p hh st t;rw[iY];cases q:(Region.ready .any ops L)[t % (Region.ready .any ops L).length]? with
  |none=>exact absurd (nV (back:=h.back) A (k9 q) m h.has) M
  |some i =>
   have hi:=aG q;obtain⟨o,g,B,l⟩:=mem_ready.1 hi;have T:i<ops.size:=(dF.1 g).1;have E:¬L.getD i false=true:=by
    simp only[bA,bJ (by omega:i<L.size),cp] at B ⊢
    simp[B]
   have f:((L.setIfInBounds i true).toList.filter (λb=>!b)).length<=fuel:=by
    have h1:L.toList[i]?=some false:=by
     rw[ly,bJ (by omega:i<L.size)]
     simpa[bA,bJ (by omega:i<L.size)] using E
    have:=count_set h1;rw[mP];omega
   have r:∀ j O,ops[j]?=some O->(L.setIfInBounds i true).getD j false=true->∀ e∈O.after,bt e=true->(L.setIfInBounds i true).getD e.on false=true:=by
    intro j O w hj e K y;rw[bG (by omega)] at hj ⊢
    rcases hj with rfl|hj
    ·rw[g] at w;cases w;exact .inr (l e K y)
    ·exact .inr (H j O w hj e K y)
   have I:bg N σ s (mE ops.toList φ x i) a:=qb (h.Gv x i o g) p l
   by_cases u:i=m
   ·subst u;have:=h.wz o g s a I hh b kk cs J i (Region.linearise.go .any ops fuel (t / (Region.ready .any ops L).length) (L.setIfInBounds i true) []) y (by simpa using g)
    simp only[jW] at this;exact this λj v s' hv j9 js=>h.Kh y j (λs a=>U j s a) fuel _ (by simp[A]) f ((bG (by omega)).2 (.inl rfl)) (by rw[bG (by omega)];rintro(e|e);exact h.T7 e;have:=C _ e;rw[h.Qa] at this;cases this) r s' _
     (gN (λd Q=>h.pr i o d g Q) h.lq g (by omega) (λk z=>h.same j k (C k z)) hh.len js p hv) j9 (st.trans js) _
   ·have n:pre i=true:=by
     cases n:pre i with
     |true=>rfl
     |false =>
      obtain⟨e,K,R,F⟩:=h.cl i o g n u;rw[C e.on (l e K R)] at F;cases F
    have:=h.one i o g n s a I hh b kk cs J i (Region.linearise.go .any ops fuel (t / (Region.ready .any ops L).length) (L.setIfInBounds i true) []) y (by simpa using g)
    simp only[jW] at this;refine this λv s' hv j9 js=>ih _ (by simp[A]) f ?_ ?_ r s' _
     (gN (λd Q=>h.pr i o d g Q) h.lq g (by omega) (λ_ _=>rfl) hh.len js p hv) j9 (st.trans js) _
    ·rw[bG (by omega)]
     rintro(e|e)
     ·exact u e.symm
     ·exact M e
    ·intro k z;rw[bG (by omega)] at z
     rcases z with rfl|z
     ·exact n
     ·exact C k z
end
end Go.AM
namespace Go.AM.R1
open Go.Proofs
variable {X:Cx Tryz.prog}
theorem LR(s:cM)(l:QA)(n:Nat)(a:l.2.1=n)(h:n<=s.2.2.length):aa (il s.2.2.length (some l.2.1) none):=by
 show 0<=l.2.1/\l.2.1<=(s.2.2.length:Int);omega
end Go.AM.R1
namespace Go.AM
theorem fb.le{P:Program}{ι:Type}{X:Cx P}{f:FuncId}{args:List D}{σ:List ak}{res res':ι->D}{σ1:ι->List ak}(h:fb X f args σ res σ1){ps:ι->List Prop}(a:∀ i,Dh (res i) (res' i)=some (ps i))(b:∀ i,aa (ps i)):fb X f args σ res' σ1 :=
 ⟨h.1,λs vs hr hh S cs hS=>h.2 s vs hr hh S cs λi fr v s' hl ph j9 st=>hS i fr v s' hl (qO (a i) (b i) ph) j9 st⟩
theorem fb.one{P:Program}{ι:Type}{X:Cx P}{f:FuncId}{args:List D}{σ:List ak}{res:D}{σ1:List ak}(h:fb (ι:=ι) X f args σ (λ_=>res) (λ_=>σ1)):Ev X f args σ res σ1 :=
 ⟨h.1,λs vs hr hh S cs hS=>h.2 s vs hr hh S cs λ_ fr v s' hl ph j9 st=>hS fr v s' hl ph j9 st⟩
namespace R1
open Go.Proofs
variable {X:Cx Tryz.prog}
end R1
end Go.AM
namespace Go.AM.R1
open Go.Proofs
open Go.Sort (pdq bitsLen ltInt Below)
variable {X:Cx Tryz.prog}
def jO(l:List Int):List Int:=l.mergeSort λx y=>decide (x<=y)
theorem eC(l:List Int):(jO l).length=l.length:=List.length_mergeSort _
theorem FQ(l:List Int):pdq ltInt l.toArray 0 l.length (bitsLen l.length) true true=(jO l).toArray:=by
 have h:=Go.Sort.sortInt l;unfold Go.Sort.sort at h;rw[mU] at h;exact gI (by rw[h];rfl)
theorem Oe(l:List Int):eI l.toArray=cI.fn l:=by
 funext j
 simp only[eI,jm.fn,CZ,cI,List.getD_eq_getElem?_getD];simp
abbrev Cg(n:Nat)(l:List Int):ak:=.buf 3 1 n (cI.fn l)
theorem xf(l:List Int)(a:l.length<=4000000):Ev X 73 [gY l.length] [Cg l.length l] (.eD []) [Cg l.length (jO l)]:=by
 refine Ev.body Tryz.func73 rfl rfl rfl λc=>?_
 refine eX rfl (by simp only[aa,aB];and_intros <;> omega) ?_
 refine AK.aP (FR l.length a) [] rfl rfl rfl rfl rfl rfl rfl rfl rfl rfl rfl ?_;refine eX rfl ab ?_;have b:=gR (x:=l.length) (k:=22) (by simp;omega)
 have key:Ev X 93 [gY l.length,dI 0,dI l.length,dI (bitsLen l.length)] [Cg l.length l] (.eD []) [Cg l.length (jO l)]:=by
  have:=Lz (X:=X) l.length a l.length l.toArray 0 l.length (bitsLen l.length) (by omega) (by simp) (by omega) (ar _) (by omega) (.inl rfl) (x:=0) rfl rfl rfl (FQ l).symm
  simp only[bI,Oe] at this;exact this
 refine AK.aP key [0] rfl rfl rfl rfl rfl rfl rfl rfl rfl rfl rfl ?_;refine eX rfl ab ?_;exact aW.oz [0] rfl ab rfl rfl rfl gz
def gB(l:List Int):Nat->List Int
 |0=>[]
 |j+1=>if j≠0/\l.getD j 0=l.getD (j-1) 0 then gB l j else gB l j++[l.getD j 0]
def cq(l:List Int):List Int:=gB l l.length
theorem n5(l:List Int):∀ j,(gB l j).length<=j
 |0=>ar _
 |j+1=>by
  have:=n5 l j;simp only[gB];split
  ·omega
  ·simp;omega
theorem kC{l:List Int}:∀ {k:Nat},k<=l.length->(∀ i,1<=i->i<k->l.getD i 0≠l.getD (i-1) 0)->gB l k=l.take k
 |0,_,_=>by simp[gB]
 |k+1,e,h=>by
  rw[gB,an,kC (by omega) λi a d=>h i a (by omega),bx (by omega) 0]
  rintro⟨c,b⟩;exact h k (by omega) (by omega) b
structure Vx (l:List Int)(k0:Nat)(k2:Nat)(ys:List Int):Prop where
 h1:1<=k2
 hj:k0+k2<=l.length
 len:ys.length=l.length
 lt:(gB l (k0+k2)).length<k0+k2
 done:ys.take (gB l (k0+k2)).length=gB l (k0+k2)
 rest:∀ i,k0+k2<=i+1->ys.getD i 0=l.getD i 0
abbrev FT(a:List Int):Type:={ es:Nat->List C // ∀ i,i<a.length->es i=cI.fn a i }
set_option maxHeartbeats 2000000 in
theorem rM(l:List Int)(K:l.length<=4000000):fb (ι:=FT (cq l)) X 74 [gY l.length] [Cg l.length l] (λ_=>.e (.one (.bp 0 (.sl l.length 1 0 (cq l).length)))) (λes=>[.buf 3 1 l.length es.1]):=by
 refine fb.Jt Tryz.func74 rfl rfl rfl λM=>?_
 by_cases h:l.length<2
 ·have n:cq l=l:=by
   unfold cq;rw[kC (ar _) λi _ _=>by omega,cZ]
  refine aF [(8,true)] 200 rfl (by simp only[aa,aD];omega) (AK.Lj ⟨cI.fn l,λi _=>by rw[n]⟩ (AK.eK [0] rfl ?_ rfl rfl rfl gz))
  simp[aa,n]
 refine aF [(8,false)] 200 rfl (by simp only[aa,a9];omega) ?_
 refine AK.iv (S2:=Unit) 0 rfl rfl (λ_=>cq l=l) (λ_=>[(0,gY l.length)]) (λ_=>[Cg l.length l]) 1 (λk:Nat=>1<=k/\k<=l.length/\∀ i,1<=i->i<k->l.getD i 0≠l.getD (i-1) 0) (λk=>[(0,gY l.length),(3,dI k)]) (λ_=>[Cg l.length l]) (λk=>l.length-k) 1 rfl ?_ rfl ?_ rfl ⟨ar _,by omega,λi z h=>by omega⟩ ?_ ?_
 ·simp[aa.cat,aa]
 ·simp[aa.cat,aa,ay.same]
 ·rintro out k ⟨F,L,d⟩
  by_cases D:k<l.length
  ·have x:((k:Int)-1).toNat=k-1:=by omega
   have B:∀ j,l.getD j cI.bD=l.getD j 0:=λ_=>rfl
   by_cases g:l.getD k 0=l.getD (k-1) 0
   ·refine aF [(13,true),(25,true)] 200 rfl ?_ ?_
    ·simp only[aa,aw,az,x,B,g,aB,aD,beq_self_eq_true,ai,ah];and_intros <;> omega
    have C:=kC (l:=l) (by omega) d
    have v:gB l (k+1)=l.take k:=by rw[gB,aq ⟨by omega,g⟩,C]
    refine AK.iv (S2:=List Int) 2 rfl rfl (λc=>c.length=l.length/\c.take (cq l).length=cq l) (λ_=>[(0,gY l.length),(3,dI (cq l).length)]) (λc=>[Cg l.length c]) 1 (λs:Nat×List Int=>Vx l k s.1 s.2) (λs=>[(0,gY l.length),(3,dI (gB l (k+s.1)).length),(4,.e (.one (.bp 0 (.sl l.length 1 k (l.length-k))))),(5,dI s.1)]) (λs=>[Cg l.length s.2]) (λs=>l.length-s.1) (1,l) rfl ?_ rfl ?_ rfl ?_ ?_ ?_
    ·simp only[aa.cat,aa,v,List.length_take,cA,aw,az,ai,ah];exact⟨by omega,rfl,rfl⟩
    ·simp[aa.cat,aa,ay.same]
    ·exact⟨ar _,by omega,rfl,by rw[v,List.length_take];omega,by rw[v];simp[List.take_take],λ_ _=>rfl⟩
    ·rintro p ⟨b,c⟩ ⟨G,c2,c3,c4,o,m⟩;simp only at G c2 c3 c4 o m
     by_cases J:k+b<l.length
     ·have w:((b:Int)-1).toNat=b-1:=by omega
      have t:∀ j,c.getD j cI.bD=c.getD j 0:=λ_=>rfl
      have r:c.getD (k+b) 0=l.getD (k+b) 0:=m _ (by omega)
      have y:c.getD (k+(b-1)) 0=l.getD (k+(b-1)) 0:=m _ (by omega)
      by_cases q:l.getD (k+b) 0=l.getD (k+(b-1)) 0
      ·have f:gB l (k+(b+1))=gB l (k+b):=by
        rw[show k+(b+1)=k+b+1 by omega,gB,aq ⟨by omega,by rw[q,show k+b-1=k+(b-1) by omega]⟩]
       refine aF [(32,true),(44,false)] 200 rfl ?_ (AK.aA (b+1,c) rfl ?_ rfl rfl rfl ?_ rfl ?_ ?_)
       ·simp only[aa,aw,az,w,t,r,y,q,aB,aD,bne_self_eq_false,Bool.not_true,beq_self_eq_true,ai,ah];and_intros <;> first|trivial|omega
       ·simp only[aa.cat,aa,f,ai,ah];omega
       ·simp[aa.cat,aa,ay.same]
       ·exact⟨by simp only;omega,by simp only;omega,c3,by simp only;rw[f];omega,by simp only;rw[f];exact o,λi hi=>m i (by simp only at hi;omega)⟩
       ·simp only;omega
      ·have f:gB l (k+(b+1))=gB l (k+b)++[l.getD (k+b) 0]:=by
        rw[show k+(b+1)=k+b+1 by omega,gB,an]
        rintro⟨_,g⟩;exact q (by rw[g,show k+b-1=k+(b-1) by omega])
       refine aF [(32,true),(44,true)] 200 rfl ?_ (AK.aA (b+1,c.set (gB l (k+b)).length (l.getD (k+b) 0)) rfl ?_ rfl rfl rfl ?_ rfl ?_ ?_)
       ·simp only[aa,aw,az,w,t,r,y,aB,aD,iM,eZ,bne_iff_ne,cf,ai,ah];and_intros <;> first|exact q|omega
       ·simp only[aa.cat,aa,f,bc,fa,kK,ai,ah];and_intros <;> omega
       ·have e:=cI.KS c (gB l (k+b)).length (l.getD (k+b) 0) l.length (by omega)
        simp only[aa.cat,aa,aw,az,t,r,ah,ai];exact e
       ·refine⟨by simp only;omega,by simp only;omega,by simp[c3],by simp only;rw[f,bc];simp;omega,?_,λi hi=>?_⟩
        ·simp only;rw[f,bc,show ∀ a:Int,[a].length=1 fromλ_=>rfl,lA,List.take_set,List.set_eq_of_length_le (by simp;omega),o,br (by omega)]
         rfl
        ·simp only at hi ⊢;rw[List.getD_eq_getElem?_getD,b7 (by omega),<-List.getD_eq_getElem?_getD]
         exact m i (by omega)
       ·simp only;omega
     ·have H:k+b=l.length:=by omega
      have A:gB l (k+b)=cq l:=by rw[H];rfl
      refine aF [(32,false)] 200 rfl ?_ (AK.leaveD rfl rfl ?_)
      ·simp only[aa,a9];omega
      rw[A] at o;exact p c ⟨c3,o⟩ rfl (by simp[aa.cat,aa,A]) rfl (by simp[aa.cat,aa,ay.same])
    rintro c ⟨E,u⟩;have I:(cq l).length<=l.length:=n5 l _;refine eX rfl ?_ ?_
    ·simp only[aa];exact⟨by omega,by omega⟩
    refine AK.law (aH.JJ tok rfl rfl rfl rfl rfl rfl ?_) rfl rfl ?_
    ·simp only[cA,az];omega
    refine bw rfl ?_ (AK.cV ⟨⟨om (0+cA 0 (some ((cq l).length:Int))) (0+cA 0 (some ((cq l).length:Int))+(cA l.length none-cA 0 (some ((cq l).length:Int)))) i3.zero (cI.fn c),λi hi=>?_⟩,aW.mk [0] rfl ?_ rfl rfl rfl gz⟩)
    ·simp only[aa];exact⟨by omega,by omega⟩
    ·have e:c[i]?=(cq l)[i]?:=by rw[<-u,dx,aq hi]
     refine(yZ (by simp only[cA,az];omega)).trans ?_
     simp only[jm.fn,CZ,List.getD_eq_getElem?_getD,e]
    ·simp[aa,cA];rfl
   ·refine aF [(13,true),(25,false)] 200 rfl ?_ (AK.aA (k+1) rfl ?_ rfl rfl rfl ?_ rfl ?_ ?_)
    ·simp only[aa,aw,az,x,B,aB,aD,eZ,cf,ai,ah];and_intros <;> first|exact g|omega
    ·simp[aa.cat,aa]
    ·simp[aa.cat,aa,ay.same]
    ·refine⟨by omega,by omega,λi z h=>?_⟩
     rcases dG.1 h with h|rfl
     ·exact d i z h
     ·exact g
    ·omega
  ·obtain rfl:k=l.length:=by omega
   refine aF [(13,false)] 200 rfl (by simp[aa]) (AK.leaveD rfl rfl ?_)
   exact out () (by unfold cq;rw[kC (ar _) d,cZ]) rfl (by simp[aa.cat,aa]) rfl (by simp[aa.cat,aa,ay.same])
 rintro⟨⟩ n;refine eX rfl ab (AK.Lj ⟨cI.fn l,λi _=>by rw[n]⟩ (AK.eK [0] rfl ?_ rfl rfl rfl gz))
 simp[aa,n]
end Go.AM.R1
namespace Go.AM.R1
open Go.Proofs
variable {X:Cx Tryz.prog}
def aZ(l:List cN):List Int:=l.flatMap (·.2)
def eO(x:cy):List Int:=cq (jO (aZ x.2))
theorem nZ{l:List cN}{i:Nat}(h:i<l.length):aZ (l.take (i+1))=aZ (l.take i)++(l.getD i ([],[])).2:=by
 rw[bx h ([],[])];simp[aZ]
theorem _root_.Go.AM.jm.Ft{α:Type}(c:jm α)(a b:List α)(n:Nat)(d:n=(a++b).length):ay n (cz a.length (c.fn a) (c.fn b)) (c.fn (a++b)):=by
 intro i hi;simp only[cz,jm.fn,CZ,List.getD_eq_getElem?_getD];subst d
 by_cases h:i<a.length
 ·rw[aq h,bS h]
 ·rw[an h,cj (by omega)]
theorem sA(x:cy)(o:x.2.length<=4000000)(k:(aZ x.2).length<=4000000)(l:∀ i,i<=x.2.length->(aZ (x.2.take i)).length<=4000000) :
  fb (ι:=FT (eO x)) X 58 [KF x] [] (λ_=>.e (.one (.bp 0 (.sl (aZ x.2).length 1 0 (eO x).length)))) (λes=>[.buf 3 1 (aZ x.2).length es.1]):=by
 refine fb.Jt Tryz.func58 rfl rfl rfl λn=>?_
 refine aF [(1000002,true)] 200 rfl ab ?_;refine AK.Ni 3 3 1 (cI.fn []) rfl ?_;refine eX rfl ab ?_;refine AK.bY 2 (λi=>i<=x.2.length) (λi:Nat=>[(3,.e (.one (.bp 1 (.sl (aZ (x.2.take i)).length 1 0 (aZ (x.2.take i)).length)))),(7,cL.sl x.2),(8,dI x.2.length),(9,dI i)])
  (λi=>[.cells 83 [.c (.int .i64 x.1),.c (.sl false 2 x.2.length (cL.fn x.2))],Cg (aZ (x.2.take i)).length (aZ (x.2.take i))]) (λi=>x.2.length-i) 0 rfl ?_ rfl ?_ rfl (by omega) ?_
 ·simp[aa.cat,aa,ay.same,aZ]
 ·simp[aa.cat,aa,ay,aZ]
 intro i hi
 by_cases h:i<x.2.length
 ·have d:x.2.getD (i:Int).toNat cL.bD=x.2.getD i ([],[]):=by rw[az];rfl
  have a:=nZ h;have b:=l (i+1) h;rw[a,bc] at b;refine aF [(10,true)] 200 rfl ?_ (AK.aA (i+1) rfl ?_ rfl rfl rfl ?_ rfl ?_ ?_)
  ·simp only[aa,d,aB,show i3.bytes=8 from rfl,aD,ai,ah];and_intros <;> omega
  ·simp only[aa.cat,aa,d,a,bc,ah,ai]
   and_intros <;> first|exact ay.same|rfl|omega
  ·have e:=cI.Ft (aZ (x.2.take i)) (x.2.getD i ([],[])).2 _ rfl;simp only[aa.cat,aa,d,a,bc,ah,ai] at e ⊢;exact⟨ay.same,e⟩
  ·show i+1<=_;omega
  ·omega
 ·obtain rfl:i=x.2.length:=by omega
  rw[cZ];refine aF [(10,false)] 200 rfl (by simp[aa]) (AK.leaveD rfl rfl ?_)
  refine eX rfl ab ?_;refine AK.aP (xf (aZ x.2) k) [1] rfl rfl rfl rfl rfl rfl rfl rfl rfl rfl rfl ?_;refine eX rfl ab ?_;have g:=rM (X:=X) (jO (aZ x.2)) (by rw[eC];exact k)
  rw[eC] at g;refine AK.pY g [1] rfl rfl rfl rfl rfl rfl rfl (λ_=>rfl) rfl (λ_=>rfl) rfl ?_
  rintro⟨es,f⟩;refine eX rfl ab (AK.Lj ⟨es,f⟩ (AK.eK [1] rfl ?_ rfl rfl rfl (λj m=>absurd m (by simp))))
  simp[aa,eO]
theorem kB(l:List cN)(i:Nat):(aZ (l.take i)).length<=(aZ l).length:=by
 have h:aZ l=aZ (l.take i)++aZ (l.drop i):=by
  unfold aZ;rw[<-pK,jT]
 rw[h,bc];omega
theorem n3(l:List Int):(cq l).length<=l.length:=n5 l _
theorem vn(x:cy)(d:x.2.length<=4000000)(c:(aZ x.2).length<=4000000):Ev X 58 [KF x] [] (cI.sl (eO x)) []:=by
 have a:=sA (X:=X) x d c λi _=>gd (kB _ _) c
 have b:=fb.lW (σ1:=λ_:FT (eO x)=>[]) (E:=3) (k:=1) (n:=λ_=>(aZ x.2).length) (es:=λes=>es.1) a (λ_=>rfl) (λ_=>?_) (λ_=>rfl) (λ_=>ar _)
 refine(b.le (res':=λ_=>cI.sl (eO x)) (λ_=>rfl) (λes=>?_)).one
 ·simp only[aa.cat,aa,ah,ai];exact es.2
 ·have:(eO x).length<=(aZ x.2).length:=by unfold eO;rw[<-eC (aZ x.2)];exact n3 _
  simpa[aa.cat,aa] using this
theorem KT(n lo hi:Int):Ev X 14 [dI n,dI lo,dI hi] [] (dB (decide (lo<=n/\n<=hi))) []:=by
 refine Ev.body Tryz.func14 rfl rfl rfl λc=>?_
 by_cases b:lo<=n
 ·by_cases a:n<=hi
  ·refine aF [(10,true),(14,true)] 100 rfl (by simp[aa];omega) (AK.au rfl ?_)
   simp[aa,b,a]
  ·refine aF [(10,true),(14,false)] 100 rfl (by simp[aa];omega) (AK.au rfl ?_)
   simp[aa];omega
 ·refine aF [(10,false),(14,false)] 100 rfl (by simp[aa];omega) (AK.au rfl ?_)
  simp[aa];omega
abbrev wR:bH:=CY aI aI aI (λn lo hi=>dB (decide (lo<=n/\n<=hi))) λ_ _ _=>[]
theorem y0:bU X 14 wR:=.Je λn lo hi _=>KT n lo hi
theorem BV(n:Nat)(f:n<=4000000):Ev X 184 [dI n] [] (dI (bo n)) []:=by
 refine Ev.body Tryz.func184 rfl rfl rfl λe=>?_
 by_cases d:n<1
 ·refine aF [(6,true),(9,true)] 100 rfl (by simp[aa];omega) (AK.au rfl ?_)
  have:bo n=0:=by simp[bo,d]
  simp[aa,this]
 by_cases c:8<n
 ·refine aF [(6,false),(9,true)] 100 rfl (by simp[aa];omega) (AK.au rfl ?_)
  have:bo n=0:=by simp[bo,c]
  simp[aa,this]
 by_cases a:n<=2
 ·refine aF [(6,false),(9,false),(10,true)] 100 rfl (by simp[aa];omega) (AK.au rfl ?_)
  have:bo n=2:=by simp only[bo,an (show ¬(n<1∨8<n) by omega),aq a]
  simp[aa,this]
 by_cases b:n<=4
 ·refine aF [(6,false),(9,false),(10,false),(13,true)] 100 rfl (by simp[aa];omega) (AK.au rfl ?_)
  have:bo n=4:=by simp only[bo,an (show ¬(n<1∨8<n) by omega),an a,aq b]
  simp[aa,this]
 ·refine aF [(6,false),(9,false),(10,false),(13,false)] 100 rfl (by simp[aa];omega) (AK.au rfl ?_)
  have:bo n=8:=by simp only[bo,an (show ¬(n<1∨8<n) by omega),an a,an b]
  simp[aa,this]
theorem ER(p:Bs)(b:aY p=true):Ev X 104 [dS p] [] (dI (codeOf p)) []:=by
 refine Ev.body Tryz.func104 rfl rfl rfl λj=>?_
 have a:=b;simp only[aY,bF,aD] at a;refine bw rfl ab ?_;refine AK.bY 0 (λi=>i<=p.length) (λi:Nat=>[(0,dS p),(3,dI (codeOf (p.take i))),(4,dI i)]) (λ_=>[]) (λi=>p.length-i) 0 rfl (by simp[aa.cat,aa,codeOf]) rfl (by simp[aa]) rfl (by omega) ?_
 intro i hi
 by_cases h:i<p.length
 ·have f:=gm b hi;have k:=gm b (i:=i+1) (by omega)
  have e:=o7 h;have g:=hZ a.2 (p.getD i 0) (rj h);have c:97<=bd p i/\bd p i<=122:=by unfold bd;omega
  refine aF [(8,true)] 100 rfl ?_ (AK.aA (i+1) rfl ?_ rfl rfl rfl ?_ rfl ?_ ?_)
  ·simp only[aa,bl,aB];simp[-List.getD_eq_getElem?_getD,h,bl];omega
  ·have d:(bd p i-97) % 256=bd p i-97:=lC (by omega) (by omega)
   rw[d] at e;simp[-List.getD_eq_getElem?_getD,aa.cat,aa,bl,e]
  ·simp[aa]
  ·show i+1<=p.length;omega
  ·show p.length-(i+1)<p.length-i;omega
 ·obtain rfl:i=p.length:=by omega
  refine aF [(8,false)] 100 rfl (by simp[aa]) (AK.leaveD rfl rfl ?_)
  refine bw rfl ab (AK.au rfl ?_);simp[aa]
theorem KU:bU X 104 (fY aS (λp=>dI (codeOf p)) λp=>[aY p=true]):=.jo λp h=>ER p h
theorem ES(k:Int)(p:Bs)(g:bO k=true)(b:aY p=true):Ev X 85 [dI k,dS p] [] (dI (kz k p)) []:=by
 refine Ev.body Tryz.func85 rfl rfl rfl λh=>?_
 have e:aO X [(104,fY aS (λp=>dI (codeOf p)) λp=>[aY p=true])]:=.cons KU .nil
 have a:=g;simp only[bO,bF,aD] at a;have d:=tc b;refine af e [] 100 rfl ?_ (AK.au rfl ?_)
 ·have c:0<=codeOf p*(2*k+1):=Int.mul_nonneg d.1 (by omega)
  have f:codeOf p*(2*k+1)<=282429536481*199:=Int.mul_le_mul (by omega) (by omega) (by omega) (by omega)
  generalize codeOf p*(2*k+1)=m at c f;simp only[aa,aB];simp[b];omega
 ·show (_:Int)=_;rfl
theorem KV:bU X 85 (ga aI aS (λk p=>dI (kz k p)) λk p=>[bO k=true,aY p=true]):=.gX λk p h=>ES k p h.1 h.2
theorem rA{n:Nat}(b:1<=n)(a:n<=8):n<=bo n/\bo n<=8:=by
 unfold bo;rw[an (by omega)]
 split
 ·omega
 ·split <;> omega
abbrev AE:bH:=fY aI (λn=>dI (bo n.toNat)) λn=>[0<=n/\n<=4000000]
theorem HP:bU X 184 AE:=.jo λn h=>by
 obtain⟨m,rfl⟩:∃ m:Nat,n=m:=⟨n.toNat,by have:=h.1;omega⟩
 exact BV m (by have:=h.2;omega)
theorem HQ(p:Bs)(c:aY p=true):Ev X 142 [dS p] [] (dS (gn p)) []:=by
 refine Ev.body Tryz.func142 rfl rfl rfl λg=>?_
 have b:aO X [(184,AE)]:=.cons HP .nil;have a:=c;simp only[aY,bF,aD] at a;have d:=rA a.1.1 a.1.2;refine af b [] 100 rfl ?_ ?_
 ·simp only[aa];omega
 refine AK.bY 0 (λj=>p.length+j<=bo p.length) (λj:Nat=>[(0,dS (p++List.replicate j 46)),(3,dI (bo p.length))]) (λ_=>[]) (λj=>bo p.length-j) 0 rfl (by simp[aa.cat,aa]) rfl (by simp[aa]) rfl (by omega) ?_
 intro j f
 by_cases h:p.length+j<bo p.length
 ·refine af b [(10,true)] 100 rfl ?_ (AK.aA (j+1) rfl ?_ rfl rfl rfl ?_ rfl ?_ ?_)
  ·simp[aa];omega
  ·simp[aa.cat,aa,List.replicate_succ']
  ·simp[aa]
  ·show p.length+(j+1)<=_;omega
  ·show bo p.length-(j+1)<bo p.length-j;omega
 ·have e:bo p.length-p.length=j:=by omega
  refine af b [(10,false)] 100 rfl (by simp[aa];omega) (AK.leaveD rfl rfl ?_)
  refine af b [] 100 rfl ab (AK.au rfl ?_);simp[aa,gn,c,e]
theorem ET(s:Bs)(i:Nat)(b:bn s=true)(g:3<=i)(hi:i<=s.length)(f:s.length<=4000000):Ev X 205 [dS s,dI i] [] (dB (jq s i)) []:=by
 refine Ev.body Tryz.func205 rfl rfl rfl λh=>?_
 have k:=BH b (i-1) (by omega)
 have l:=BH b (i-2) (by omega)
 have j:=BH b (i-3) (by omega)
 have e:((fA s ((i:Int)-1)).toNat:Int)=bd s (i-1):=by rw[bl,show ((i:Int)-1).toNat=i-1 by omega]
 have c:((fA s ((i:Int)-2)).toNat:Int)=bd s (i-2):=by rw[bl,show ((i:Int)-2).toNat=i-2 by omega]
 have d:((fA s ((i:Int)-3)).toNat:Int)=bd s (i-3):=by rw[bl,show ((i:Int)-3).toNat=i-3 by omega]
 refine bw rfl ?_ (AK.au rfl ?_)
 ·simp only[aa,aB,e,c,d];omega
 ·simp only[aa,aa.cat,e,c,d,jq,dl,ah];rw[lC (a:=bd s (i-1)-97) (by omega) (by omega),lC (a:=bd s (i-2)-97) (by omega) (by omega),lC (a:=bd s (i-3)-97) (by omega) (by omega)]
abbrev EU:bH:=ga aS aI (λs i=>dB (jq s i.toNat)) λs i=>[bn s=true,3<=i,i<=s.length,s.length<=4000000]
theorem KW:bU X 205 EU:=.gX λs i h=>by
 obtain⟨b,c,d,a⟩:=h;obtain⟨m,rfl⟩:∃ m:Nat,i=m:=⟨i.toNat,by omega⟩
 exact ET s m b (by omega) (by omega) a
theorem KX(t:Bs)(f:Nat)(g:bn t=true)(l:f<=t.length)(o:t.length<=4000000):Ev X 185 [dS t,dI f] [] (dI (cutAt t f)) []:=by
 refine Ev.body Tryz.func185 rfl rfl rfl λq=>?_
 have b:aO X [(205,EU)]:=.cons KW .nil;refine af b [] 100 rfl ab ?_;refine AK.eg (λj=>j<=5/\oD t f (5-j)=cutAt t f) (λj:Nat=>[(0,dS t),(1,dI f),(5,dI (3+j))]) (λ_=>[]) (λj=>5-j) 0 rfl ?_ rfl ab ⟨by omega,rfl⟩ ?_
 ·simp[aa,aa.cat]
 rintro j ⟨p,a⟩
 by_cases h:j<5
 ·obtain⟨k,n⟩:∃ k,5-j=k+1:=⟨4-j,by omega⟩
  have d:f+(7-k)=f+3+j:=by omega
  rw[n] at a;simp only[oD,d] at a
  by_cases i:t.length<=f+3+j
  ·rw[aq i] at a;refine af b [(7,true),(15,true)] 100 rfl ?_ (AK.dW (aW.zero rfl ?_))
   ·simp only[aa,aB,aD,ai,ah];omega
   ·simp[aa,aa.cat,<-a]
  rw[an i] at a;have e:((f:Int)+(3+(j:Int))).toNat=f+3+j:=by omega
  cases c:jq t (f+3+j) with
  |true =>
   rw[c,aq rfl] at a;refine af b [(7,true),(15,false),(22,true)] 100 rfl ?_ (AK.dW (aW.zero rfl ?_))
   ·simp only[aa,aB,e,c,g,aD,a9,ai,ah];omega
   ·simp[aa,aa.cat,<-a];omega
  |false =>
   rw[c,an (by simp)] at a
   refine af b [(7,true),(15,false),(22,false)] 100 rfl ?_ (AK.cR (j+1) rfl ?_ rfl ab ⟨by omega,by rw[<-a];congr 1;omega⟩ (by omega))
   ·simp only[aa,aB,e,c,g,aD,a9,ai,ah];omega
   ·simp[aa,aa.cat];omega
 ·have e:cutAt t f=min (f+8) t.length:=by
   rw[<-a,show 5-j=0 by omega];rfl
  have m:aB .i64 ((min (f+8) t.length:Nat):Int):=by simp only[aB];omega
  refine af b [(7,false)] 100 rfl ?_ (AK.leave rfl rfl ?_)
  ·simp only[aa,aB,aD,a9];omega
  refine af b [] 100 rfl ?_ ?_
  ·simp only[aa,aB];omega
  refine AK.law (yQ ((min (f+8) t.length:Nat):Int) rfl rfl rfl (by omega) m) rfl rfl ?_
  refine af b [] 100 rfl ab (AK.au rfl ?_);simp[aa,e]
abbrev NP:bH:=ga aS aI (λs i=>dI (cutAt s i.toNat)) λs i=>[bn s=true,0<=i,i<=s.length,s.length<=4000000]
theorem QB:bU X 185 NP:=.gX λs i h=>by
 obtain⟨b,c,d,a⟩:=h;obtain⟨m,rfl⟩:∃ m:Nat,i=m:=⟨i.toNat,by omega⟩
 exact KX s m b (by omega) a
abbrev iw(t:Bs):List Int:=(ve t).map λn:Nat=>(n:Int)
theorem EV(t:Bs)(l:bn t=true)(o:t.length<=4000000):Ev X 144 [dS t] [] (cI.sl (iw t)) []:=by
 refine Ev.body Tryz.func144 rfl rfl rfl λp=>?_
 have b:aO X [(185,NP)]:=.cons QB .nil;refine af b [(1000003,true)] 100 rfl ab ?_;refine AK.lS 3 3 1 rfl rfl ?_;refine af b [] 100 rfl ab ?_;refine AK.bY 1 (λs:Nat×List Int=>s.1<=t.length/\s.2.length<=s.1/\∃ k,t.length<=s.1+k/\iw t=s.2++(jM t k s.1).map λn:Nat=>(n:Int)) (λs=>[(0,dS t),(3,.e (.one (.vec 0 1 s.2.length (cI.fn s.2)))),(4,dI s.1)]) (λs=>[.vec 3 1 s.2.length (cI.fn s.2)]) (λs=>t.length-s.1) (0,[]) rfl ?_ rfl ?_ rfl ⟨by simp,by simp,t.length,by simp,by simp[iw,ve]⟩ ?_
 ·simp[aa.cat,aa,ay.same,ay.nil]
 ·simp[aa.cat,aa,ay.same,ay.nil]
 rintro⟨f,acc⟩ ⟨c,a,k,m,d⟩;simp only at c a m d
 by_cases h:f<t.length
 ·obtain⟨k,rfl⟩:∃ k',k=k'+1:=⟨k-1,by omega⟩
  have j:=lZ t f h;have g:=cI.eU acc (cutAt t f:Int);have i:acc.length+1=(acc++[(cutAt t f:Int)]).length:=by simp
  refine af b [(9,true)] 100 rfl ?_ (AK.aA (cutAt t f,acc++[(cutAt t f:Int)]) rfl ?_ rfl rfl rfl ?_ rfl ?_ ?_)
  ·simp only[aa,l,show i3.bytes=8 from rfl,aD,ai,ah]
   and_intros <;> omega
  ·exact aa.cat.2 ⟨rfl,aa.cat.2 ⟨⟨i,g⟩,aa.cat.2 ⟨rfl,ab⟩⟩⟩
  ·exact aa.cat.2 ⟨⟨i,g⟩,ab⟩
  ·refine⟨j.2.1,by simp;omega,k,by simp only;omega,?_⟩
   rw[d];simp only[jM,aq h];simp
  ·simp only;omega
 ·have e:iw t=acc:=by
   have:jM t k f=[]:=by cases k <;> simp[jM,h]
   rw[d,this];simp
  refine af b [(9,false)] 100 rfl (by simp only[aa,a9];omega) (AK.leaveD rfl rfl ?_)
  refine af b [] 100 rfl ab (AK.au rfl ?_);rw[e];simp[aa,aa.cat,ay.same]
abbrev EW:bH:=fY aS (λt=>cI.sl (iw t)) λt=>[bn t=true,t.length<=4000000]
theorem KY:bU X 144 EW:=.jo λt h=>EV t h.1 h.2
theorem drop_cons{α:Type}{l r:List α}{i:Nat}{x:α}(h:l.drop i=x::r)(d:α):i<l.length/\l.getD i d=x/\l.drop (i+1)=r:=by
 have a:i<l.length:=by
  rcases bC i l.length with a|a
  ·exact a
  ·rw[tX a] at h;cases h
 rw[tS a] at h;simp only[List.cons.injEq] at h;refine⟨a,?_,h.2⟩;rw[List.getD_eq_getElem?_getD,aj a];exact h.1
theorem tk(t:Bs):∀ k f,(jM t k f).length<=k
 |0,_=>ar _
 |k+1,f=>by
  simp only[jM];split
  ·have:=tk t k (cutAt t f);simp;omega
  ·simp
theorem HR(t:Bs)(v:bn t=true)(x:t.length<=4000000):Ev X 108 [dS t] [] (cS.sl (pieces t)) []:=by
 refine Ev.body Tryz.func108 rfl rfl rfl λC=>?_
 have g:aO X [(144,EW)]:=.cons KY .nil;have D:(iw t).length<=t.length:=by simp only[iw,iN];exact tk t _ _
 refine af g [(1000002,true)] 100 rfl ab ?_;refine AK.lS 3 9 1 rfl rfl ?_;refine af g [] 100 rfl (by simp only[aa,v];exact⟨ab,x⟩) ?_
 refine AK.bY 1 (λs:Nat×Nat×List Bs=>s.1<=(iw t).length/\s.2.1<=t.length/\s.2.2.length<=s.1/\∃ k,t.length<=s.2.1+k/\(iw t).drop s.1=((jM t k s.2.1).map λn:Nat=>(n:Int))/\pieces t=s.2.2++eT t k s.2.1) (λs=>[(0,dS t),(3,.e (.one (.vec 0 1 s.2.2.length (cS.fn s.2.2)))),(4,dI s.2.1),(5,cI.sl (iw t)),(6,dI s.1)]) (λs=>[.vec 9 1 s.2.2.length (cS.fn s.2.2)]) (λs=>(iw t).length-s.1) (0,0,[]) rfl ?_ rfl ?_ rfl ⟨by simp,by simp,by simp,t.length,by simp,by simp[iw,ve],by simp[pieces]⟩ ?_
 ·simp[aa.cat,aa,ay.same,ay.nil]
 ·simp[aa.cat,aa,ay.same,ay.nil]
 rintro⟨i,f,acc⟩ ⟨hi,m,j,k,z,c,p⟩;simp only at hi m j z c p
 by_cases h:i<(iw t).length
 ·have d:jM t k f≠[]:=by
   intro e;rw[e] at c;have:=kI (i:=i) (l:=iw t);rw[c] at this;simp at this;simp only[iw,iN] at h;omega
  obtain⟨k,rfl⟩:∃ k',k=k'+1:=by
   cases k with
   |zero=>exact absurd rfl d
   |succ k=>exact⟨k,rfl⟩
  have a:f<t.length:=by
   rcases bC f t.length with h|h
   ·exact h
   ·exact absurd (by simp only[jM,an (show ¬f<t.length by omega)]) d
  simp only[jM,aq a,iO] at c;obtain⟨_,A,w⟩:=drop_cons c 0;have y:=lZ t f a;have o:(iw t).getD (i:Int).toNat cI.bD=(cutAt t f:Int):=by rw[az];exact A
  have b:nH t (some (f:Int)) (some (cutAt t f:Int))=(t.drop f).take (cutAt t f-f):=by simp[nH,List.drop_take]
  have u:=cS.eU acc ((t.drop f).take (cutAt t f-f));have q:acc.length+1=(acc++[(t.drop f).take (cutAt t f-f)]).length:=by simp
  refine af g [(13,true)] 100 rfl ?_ (AK.aA (i+1,cutAt t f,acc++[(t.drop f).take (cutAt t f-f)]) rfl ?_ rfl rfl rfl ?_ rfl ?_ ?_)
  ·simp only[aa,o,aB,il,show i9.bytes=16 from rfl,aD,ai,ah]
   and_intros <;> omega
  ·simp only[aa.cat,aa,o,b,ai,ah]
   and_intros <;> first|exact q|exact u|exactλ_ _=>rfl|omega
  ·simp only[aa.cat,aa,o,b,ai,ah]
   and_intros <;> first|exact q|exact u
  ·refine⟨by simp only;omega,y.2.1,by simp;omega,k,by simp only;omega,w,?_⟩
   rw[p];simp only[eT,aq a];simp
  ·simp only;omega
 ·have e:pieces t=acc:=by
   have r:jM t k f=[]:=by
    rw[tX (by omega)] at c
    exact List.map_eq_nil_iff.1 c.symm
   have a:¬f<t.length:=by
    intro B;cases k with
    |zero=>omega
    |succ k=>simp only[jM,aq B] at r;cases r
   rw[p];cases k <;> simp[eT,a]
  refine af g [(13,false)] 100 rfl (by simp only[aa,a9];omega) (AK.leaveD rfl rfl ?_)
  refine af g [] 100 rfl ab (AK.au rfl ?_);rw[e];simp[aa,aa.cat,ay.same]
abbrev Jo:bH:=fY aS (λt=>cS.sl (pieces t)) λt=>[bn t=true,t.length<=4000000]
theorem NR:bU X 108 Jo:=.jo λt h=>HR t h.1 h.2
theorem _root_.Go.AM.jm.rB{α:Type}(c:jm α)(l:List α)(x y:α):ay (l.length+1+1) (cz (l.length+1) (cz l.length (c.fn l) λq=>[c.enc x].getD q []) λq=>[c.enc y].getD q []) (c.fn (l++[x,y])):=by
 have h1:=c.eU l x;have h2:=c.eU (l++[x]) y;rw[show (l++[x]).length=l.length+1 by simp,show l++[x]++[y]=l++[x,y] by simp] at h2
 intro q a;rw[<-h2 q a];simp only[cz]
 by_cases e:q<l.length+1
 ·rw[aq e,aq e];exact h1 q e
 ·rw[an e,an e]
abbrev KZ:bH:=ga aI aS (λk p=>dI (kz k p)) λk p=>[bO k=true,aY p=true]
abbrev Jq:bH:=fY aS (λp=>dS (gn p)) λp=>[aY p=true]
theorem NT:bU X 142 Jq:=.jo λp h=>HQ p h
end Go.AM.R1
namespace Go.AM
theorem Fits.E6{args:List D}{σ:List ak}(h:Fits args σ)(k:Nat){cs:List A}(d:args[k]?=some (.e (.agg cs)))(j:Nat){t:Bool}{q n:Nat}{es:Nat->List C}(hj:cs[j]?=some (A.c (.sl t q n es))):n<=9223372036854775807:=by
 obtain⟨s,v,b⟩:=h.at d;obtain⟨vs,_,h2⟩:=b;obtain⟨u,_,a⟩:=cu.get h2 hj;cases a <;> omega
theorem Fits.NW{args:List D}{σ:List ak}(h:Fits args σ)(k:Nat){t:Bool}{kk n:Nat}{es:Nat->List C}(d:args[k]?=some (.e (.one (.c (.sl t kk n es))))){i j:Nat}{p:Bs}(hi:i<n)(hj:(es i)[j]?=some (.str p)):p.length<=9223372036854775807:=by
 obtain⟨s,vs,a,_⟩:=h;have:=(bZ.get a).2 k;rw[d] at this;have:=eB (show b5 σ s ((vs[k]?).getD undef) (.e (.one (.c (.sl t kk n es)))) from this)
 generalize (vs[k]?).getD undef=v at this;cases this with
 |sl b off f h1 h2 h3 h4 h5 h6 h7 =>
  have:=h7 i hi j _ hj;generalize f i j=u at this;cases this with
  |str e hl=>exact hl
theorem Fits.NX{args:List D}{σ:List ak}(h:Fits args σ)(k:Nat){cs:List A}(d:args[k]?=some (.e (.agg cs)))(j:Nat){p:List UInt8}(hj:cs[j]?=some (A.c (.str p))):p.length<=9223372036854775807:=by
 obtain⟨s,v,b⟩:=h.at d;obtain⟨vs,_,h2⟩:=b;obtain⟨u,_,a⟩:=cu.get h2 hj;cases a with
 |str _ hl=>exact hl
namespace R1
theorem cw{n i:Nat}{p:Nat->Bool}(hi:i<n)(h:p i=false):(List.range n).all p=false:=by
 cases a:(List.range n).all p with
 |false=>rfl
 |true=>rw[ba.1 a i hi] at h;cases h
theorem dn{i:Nat}{p:Nat->Bool}(a:∀ j,j<i->p j=true)(h:p i=true):∀ j,j<i+1->p j=true:=λj b=>by
 rcases dG.1 b with b|rfl
 ·exact a j b
 ·exact h
end R1
end Go.AM
namespace Go.AM.R1
open Go.Proofs
variable {X:Cx Tryz.prog}
theorem BY(p:Bs):Ev X 141 [dS p] [] (dB (aY p)) []:=by
 refine Ev.body Tryz.func141 rfl rfl rfl λb=>?_
 have a:aO X [(14,wR),(143,HV)]:=.cons y0 (.cons t143 .nil)
 by_cases h:1<=p.length/\p.length<=8
 ·refine af a [(6,true)] 100 rfl ?_ (AK.au rfl ?_)
  ·simp[aa];omega
  ·simp[aa,aY,h.1,h.2]
 ·refine af a [(6,false)] 100 rfl ?_ (AK.au rfl ?_)
  ·simp[aa];omega
  ·have:aY p=false:=by simp only[aY,<-Bool.decide_and,bV h,kP]
   simp[aa,this]
abbrev AG:bH:=fY aS (λp=>dB (aY p)) λ_=>[]
theorem HW:bU X 141 AG:=.jo λp _=>BY p
theorem BZ(p:Bs):Ev X 103 [dS p] [] (dS (gn p)) []:=by
 refine Ev.body Tryz.func103 rfl rfl rfl λb=>?_
 have a:aO X [(141,AG),(142,Jq)]:=.cons HW (.cons NT .nil);cases h:aY p with
 |true=>exact af a [(5,false)] 100 rfl (by simp[aa,h]) (AK.au rfl (by simp[aa]))
 |false=>exact af a [(5,true)] 100 rfl (by simp[aa,h]) (AK.au rfl (by simp[aa,gn,h]))
abbrev AH:bH:=fY aS (λp=>dS (gn p)) λ_=>[]
theorem HX:bU X 103 AH:=.jo λp _=>BZ p
theorem B0(p:Bs):(gn p).length<=8:=by
 unfold gn;split
 ·rename_i h
  simp only[aY,bF,aD] at h;have:=rA h.1.1 h.1.2;simp only[bc,List.length_replicate];omega
 ·simp
theorem wV(b:Bs):Ev X 84 [dS b] [] (u6 (c8 b)) []:=by
 refine Ev.body Tryz.func84 rfl rfl rfl λu=>?_
 have r:=u.str 0 rfl;have m:aO X [(103,AH)]:=.cons HX .nil;refine bw rfl ab ?_;have fin:∀ n,n<=b.length->strip (b.take n)=strip b->(n=0∨strip (b.take n)=b.take n)->b.take n=strip b:=λn d h f=>by
  rcases f with rfl|f
  ·simpa[strip] using h
  ·rw[<-f,h]
 have rest:∀ n,n<=b.length->b.take n=strip b->c8 b=if b.length<=8/\gn (strip b)=b/\n≠0 then some (b.take n) else none:=λn d h=>by
  have t:=B0 (strip b);have j:n=0↔strip b=[]:=by
   rw[<-h]
   constructor
   ·rintro rfl;rfl
   ·intro a;rcases List.take_eq_nil_iff.1 a with a|a
    ·exact a
    ·rw[a] at d;simpa using d
  unfold c8;rw[h]
  by_cases a:gn (strip b)=b
  ·by_cases g:aY (strip b)=true
   ·have:n≠0:=λp=>by rw[j.1 p] at g;cases g
    rw[aq (by simp[a,g]),aq ⟨by rw[<-a];exact t,a,this⟩]
   ·have p:n=0:=j.2 (by rw[gn,an g] at a;rw[<-a];rfl)
    rw[an (by simp[g]),an (by simp[p])]
  ·rw[an (by simp[a]),an (by simp[a])]
 refine AK.iv (S2:=Nat) 0 rfl rfl (λn=>n<=b.length/\b.take n=strip b) (λn=>[(0,dS b),(4,dI n)]) (λ_=>[]) 0 (λn=>n<=b.length/\strip (b.take n)=strip b) (λn:Nat=>[(0,dS b),(4,dI n)]) (λ_=>[]) (λn=>n) b.length rfl (by simp[aa.cat,aa]) rfl ab rfl ⟨by omega,by simp⟩ ?_ ?_
 ·rintro out n ⟨d,c⟩;rcases n with _|n
  ·refine aF [(9,false),(15,false)] 100 rfl (by simp[aa]) (AK.leaveD rfl rfl ?_)
   exact out 0 ⟨d,fin 0 d c (.inl rfl)⟩ rfl (by simp[aa.cat,aa]) rfl ab
  have j:=rh (s:=b) (n:=n) (by omega)
  have i:((n:Int)+1-1).toNat=n:=by omega
  by_cases f:b.getD n 0=46
  ·refine aF [(9,true),(15,true)] 100 rfl ?_ (AK.aA n rfl ?_ rfl rfl rfl ab rfl ⟨by omega,?_⟩ (by omega))
   ·have a:bd b n=46:=by unfold bd;rw[f];rfl
    simp[-List.getD_eq_getElem?_getD,aa,bl,i,a,aB];omega
   ·simp[aa.cat,aa]
   ·rw[j,aq f] at c;exact c
  ·refine aF [(9,true),(15,false)] 100 rfl ?_ (AK.leaveD rfl rfl ?_)
   ·have a:bd b n≠46:=by
     unfold bd;intro e;exact f (l7.1 (by show _=46;omega))
    simp[-List.getD_eq_getElem?_getD,aa,bl,i,a,aB];omega
   ·exact out (n+1) ⟨d,fin _ d c (.inr (by rw[j,an f]))⟩ rfl (by simp[aa.cat,aa]) rfl ab
 rintro n ⟨d,q⟩;have o:=rest n d q;have k:nH b none (some (n:Int))=strip b:=q▸rfl;have hi:((b.length:Int)<=8)↔b.length<=8:=by omega
 by_cases l:b.length<=8
 ·by_cases c2:gn (strip b)=b
  ·by_cases c3:n=0
   ·refine af m [(21,false),(29,false),(32,true)] 100 rfl ?_ (AK.au rfl ?_)
    ·subst c3;simp only[aa,k,c2];simp;omega
    ·simp[aa,aa.cat,o,c3]
   ·refine af m [(21,false),(29,false),(32,false)] 100 rfl ?_ (AK.au rfl ?_)
    ·simp[aa,k,hi,l,c2,c3,d]
    ·simp[aa,aa.cat,o,k,q,l,c2,c3]
  ·refine af m [(21,false),(29,true),(32,true)] 100 rfl ?_ (AK.au rfl ?_)
   ·simp[aa,k,hi,l,c2,d]
   ·simp[aa,aa.cat,o,c2]
 ·refine af m [(21,true),(29,true),(32,true)] 100 rfl ?_ (AK.au rfl ?_)
  ·simp[aa];omega
  ·simp[aa,aa.cat,o,l]
abbrev oI:bH:=fY aS (λb=>u6 (c8 b)) λ_=>[]
theorem tn:bU X 84 oI:=.jo λb _=>wV b
theorem B4(k:Int)(x:ew)(c:bO k=true):Ev X 65 [dI k,Qn x] [] (dB (right k x)) []:=by
 refine Ev.body Tryz.func65 rfl rfl rfl λd=>?_
 have b:aO X [(84,oI),(85,KZ)]:=.cons tn (.cons KV .nil);cases a:c8 x.2 with
 |none=>exact af b [(14,false)] 100 rfl (by simp[aa,a]) (AK.au rfl (by simp[aa,right,a]))
 |some p=>exact af b [(14,true)] 100 rfl (by simp[aa,a,c,rl a]) (AK.au rfl (by simp[aa,right,a]))
abbrev vg:bH:=ga aI yJ (λk x=>dB (right k x)) λk _=>[bO k=true]
theorem AI:bU X 65 vg:=.gX λk x h=>B4 k x h
theorem HY(k:Int):Ev X 47 [dI k] [] (dB (bO k)) []:=by
 refine Ev.body Tryz.func47 rfl rfl rfl λb=>?_
 have a:aO X [(14,wR)]:=.cons y0 .nil;exact af a [] 100 rfl ab (AK.au rfl (by simp[aa,bO]))
abbrev wW:bH:=fY aI (λk=>dB (bO k)) λ_=>[]
theorem AJ:bU X 47 wW:=.jo λk _=>HY k
abbrev K4(p:aR):ak:=.cells 73 [.c (.int .i64 p.1),.c (sP p)]
theorem wX(k:Int)(p:aR) (n:Int):Ev X 105 [dI k,Jf p,dI n] [] (u6 (cn k p n)) []:=by
 refine Ev.body Tryz.func105 rfl rfl rfl λo=>?_
 have d:aO X [(47,wW),(65,vg),(84,oI)]:=.cons AJ (.cons AI (.cons tn .nil));cases g:bO k with
 |false =>
  refine af d [(11,true)] 100 rfl (by simp[aa,g]) (AK.au rfl ?_)
  have:cn k p n=none:=by
   unfold cn chunk;split
   ·split <;> simp[g]
   ·rfl
  simp[aa,aa.cat,this]
 |true =>
 have m:=o.E6 1 rfl 1 rfl;refine af d [(11,false)] 100 rfl (by simp[aa,g]) ?_
 refine AK.bY 1 (λi=>i<=p.2.length/\p.2.find? (λx=>x.1==n)=(p.2.drop i).find? (λx=>x.1==n)) (λi:Nat=>[(0,dI k),(4,.e (.one (.ptr 0 0))),(2,dI n),(8,dI i)]) (λ_=>[K4 p]) (λi=>p.2.length-i) 0 rfl (by simp[aa.cat,aa]) rfl (by simp[aa.cat,aa,ay.same]) rfl ⟨by omega,rfl⟩ ?_
 rintro i ⟨hi,a⟩
 by_cases h:i<p.2.length
 ·have j:p.2.getD i cK.bD=dT p i:=rfl;have l:p.2.drop i=dT p i::p.2.drop (i+1):=by rw[tS h,dT,List.getD_eq_getElem?_getD,aj h];rfl
  rw[l,List.find?_cons] at a
  by_cases f:(dT p i).1=n
  ·rw[show ((dT p i).1==n)=true by simpa using f] at a
   cases c:right k (dT p i) with
   |false =>
    have b:right k (n,(dT p i).2)=false:=f▸c;refine af d [(16,true),(26,true),(34,true)] 100 rfl ?_ (AK.cV (aW.zero rfl ?_))
    ·simp[-List.getD_eq_getElem?_getD,aa,j,f,b,g,h]
    ·have e:cn k p n=none:=by
      have:=m4 (k:=k) (x:=dT p i) g;rw[c] at this;simp only[cn,a];simpa using this
     simp[aa,aa.cat,e]
   |true =>
    have b:right k (n,(dT p i).2)=true:=f▸c;refine af d [(16,true),(26,true),(34,false)] 100 rfl ?_ (AK.cV (aW.zero rfl ?_))
    ·simp[-List.getD_eq_getElem?_getD,aa,j,f,b,g,h]
    ·have e:cn k p n=c8 (dT p i).2:=by
      simp only[cn,a,chunk];unfold right at c;split at c
      ·rename_i q r;rw[r];simp only[g,c,Bool.and_self,aV]
      ·cases c
     simp[-List.getD_eq_getElem?_getD,aa,aa.cat,e,j]
  ·rw[show ((dT p i).1==n)=false by simpa using f] at a
   refine af d [(16,true),(26,false)] 100 rfl ?_ (AK.aA (i+1) rfl (by simp[aa.cat,aa]) rfl rfl rfl (by simp[aa.cat,aa,ay.same]) rfl ⟨h,a⟩ (by omega))
   simp[-List.getD_eq_getElem?_getD,aa,j,f,aB,h];omega
 ·obtain rfl:i=p.2.length:=by omega
  refine af d [(16,false)] 100 rfl (by simp[aa]) (AK.leaveD rfl rfl ?_)
  refine af d [] 100 rfl ab (AK.au rfl ?_);simp[aa,aa.cat,cn,a]
abbrev AL:bH:=CY aI (na cK) aI (λk p n=>u6 (cn k p n)) λ_ _ _=>[]
theorem HZ:bU X 105 AL:=.Je λk p n _=>wX k p n
theorem pb(k:Int)(p:aR):gO k p=(decide (1<=p.1/\p.1<=99)&&bO k&&decide (1<=p.2.length/\p.2.length<=4)&&(List.range p.2.length).all (gp k p)):=by
 rw[oE];simp only[Bool.decide_and];cases bO k <;> cases decide (1<=p.1) <;> cases decide (p.1<=99) <;> cases decide (1<=p.2.length) <;> cases decide (p.2.length<=4) <;> simp
theorem B5{k:Int}{p:aR}{i:Nat}(a:i≠0):gp k p i=(right k (dT p i)&&decide ((dT p (i-1)).1<(dT p i).1)):=by
 unfold gp;rw[show (i==0)=false by simpa using a,pS]
theorem y3(k:Int)(p:aR):Ev X 45 [dI k,Jf p] [] (dB (gO k p)) []:=by
 refine Ev.body Tryz.func45 rfl rfl rfl λr=>?_
 have b:aO X [(14,wR),(47,wW),(65,vg)]:=.cons y0 (.cons AJ (.cons AI .nil));have q:=r.E6 1 rfl 1 rfl;rw[pb]
 by_cases f:1<=p.1/\p.1<=99
 rotate_left
 ·exact af b [(10,true),(14,true),(21,true)] 100 rfl (by simp[aa];omega) (AK.au rfl (by simp[aa,bV f]))
 cases d:bO k
 ·exact af b [(10,false),(14,true),(21,true)] 100 rfl (by simp[aa,d,f]) (AK.au rfl (by simp[aa]))
 by_cases c3:1<=p.2.length/\p.2.length<=4
 rotate_left
 ·exact af b [(10,false),(14,false),(21,true)] 100 rfl (by simp[aa,d,f];omega) (AK.au rfl (by simp[aa,bV c3]))
 refine af b [(10,false),(14,false),(21,false)] 100 rfl (by simp[aa,d,f];omega) ?_
 rw[aQ f,aQ c3,ck,ck,ck];refine AK.bY 1 (λi=>i<=p.2.length/\∀ j,j<i->gp k p j=true) (λi:Nat=>[(0,dI k),(3,.e (.one (.ptr 0 0))),(5,dI i)]) (λ_=>[K4 p]) (λi=>p.2.length-i) 0 rfl (by simp[aa.cat,aa]) rfl (by simp[aa.cat,aa,ay.same]) rfl ⟨by omega,by omega⟩ ?_
 rintro i ⟨hi,a⟩
 by_cases h:i<p.2.length
 ·have l:p.2.getD i cK.bD=dT p i:=rfl;cases c:right k (dT p i) with
  |false =>
   refine af b [(26,true),(37,true),(56,true)] 100 rfl ?_ (AK.cV (aW.zero rfl ?_))
   ·simp[-List.getD_eq_getElem?_getD,aa,l,c,d,h]
   ·rw[cw h (by simp only[gp,c,kP])];simp[aa]
  |true =>
   by_cases o:i=0
   ·subst o;refine af b [(26,true),(37,false),(40,false),(56,false)] 100 rfl ?_ (AK.aA 1 rfl (by simp[aa.cat,aa]) rfl rfl rfl (by simp[aa.cat,aa,ay.same]) rfl ⟨h,dn a (by simp only[gp,c,ck];rfl)⟩ (by omega))
    simp[-List.getD_eq_getElem?_getD,aa,l,c,d,h,aB]
   have g:p.2.getD (i-1) cK.bD=dT p (i-1):=rfl;have n:=B5 (k:=k) (p:=p) o
   by_cases m:(dT p (i-1)).1<(dT p i).1
   ·refine af b [(26,true),(37,false),(40,true),(54,false),(56,false)] 100 rfl ?_ (AK.aA (i+1) rfl (by simp[aa.cat,aa]) rfl rfl rfl (by simp[aa.cat,aa,ay.same]) rfl ⟨h,dn a (by rw[n,c,aQ m];rfl)⟩ (by omega))
    simp[-List.getD_eq_getElem?_getD,aa,l,g,c,d,h,m,aB];omega
   ·refine af b [(26,true),(37,false),(40,true),(54,true),(56,true)] 100 rfl ?_ (AK.cV (aW.zero rfl ?_))
    ·simp[-List.getD_eq_getElem?_getD,aa,l,g,c,d,h,aB];omega
    ·rw[cw h (by rw[n,bV m,kQ])];simp[aa]
 ·obtain rfl:i=p.2.length:=by omega
  refine af b [(26,false)] 100 rfl (by simp[aa]) (AK.leaveD rfl rfl ?_)
  exact af b [] 100 rfl ab (AK.au rfl (by simp[aa,ba.2 a]))
abbrev wY:bH:=ga aI (na cK) (λk p=>dB (gO k p)) λ_ _=>[]
theorem E7:bU X 45 wY:=.gX λk p _=>y3 k p
theorem cJ{α:Type}{l:List α}{i:Nat}{d:α}(h:i<l.length):l.getD i d∈l:=by
 rw[List.getD_eq_getElem?_getD,aj h];exact gF h
theorem H0{l:List Int}{n:Int}:l.contains n=!(List.range l.length).all λi=>!(l.getD i 0==n):=by
 rw[lE,iM,<-kJ,ba,tZ]
 constructor
 ·intro h a;obtain⟨i,hi,rfl⟩:=jV.1 h;have:=a i hi;simp[List.getD_eq_getElem?_getD,aj hi] at this
 ·intro h
  by_cases a:n∈l
  ·exact a
  ·exact absurd (λi hi=>by
    have:l.getD i 0≠n:=λe=>a (e▸cJ hi)
    simpa using this) h
theorem H2(l:List Int) (n:Int):Ev X 27 [cI.sl l,dI n] [] (dB (l.contains n)) []:=by
 refine Ev.body Tryz.func27 rfl rfl rfl λe=>?_
 have d:=e.sl 0 rfl;refine bw rfl ab ?_;rw[H0];refine AK.eg (λi=>i<=l.length/\∀ j,j<i->(!(l.getD j 0==n))=true) (λi:Nat=>[(0,cI.sl l),(1,dI n),(5,dI i)]) (λ_=>[]) (λi=>l.length-i) 0 rfl (by simp[aa.cat,aa,ay.same]) rfl ab ⟨by omega,by omega⟩ ?_
 rintro i ⟨hi,a⟩
 by_cases h:i<l.length
 ·have c:l.getD i cI.bD=l.getD i 0:=rfl
  by_cases b:l.getD i 0=n
  ·refine aF [(9,true),(17,true)] 100 rfl ?_ (AK.dW (aW.zero rfl ?_))
   ·simp[-List.getD_eq_getElem?_getD,aa,c,b,h]
   ·rw[cw h (by simpa using b)];simp[aa]
  ·refine aF [(9,true),(17,false)] 100 rfl ?_ (AK.cR (i+1) rfl (by simp[aa.cat,aa,ay.same]) rfl ab ⟨h,dn a (by simpa using b)⟩ (by omega))
   simp[-List.getD_eq_getElem?_getD,aa,c,b,h,aB];omega
 ·obtain rfl:i=l.length:=by omega
  refine aF [(9,false)] 100 rfl (by simp[aa]) (AK.leave rfl rfl ?_)
  exact bw rfl ab (AK.au rfl (by rw[ba.2 a];simp[aa]))
abbrev E8:bH:=ga (aL cI) aI (λl n=>dB (l.contains n)) λ_ _=>[]
theorem Jr:bU X 27 E8:=.gX λl n _=>H2 l n
theorem y4(k:Int)(ps:List aR) (n:Int):Ev X 86 [dI k,cP.sl ps,dI n] [] (u6 (b9 k ps n)) []:=by
 refine Ev.body Tryz.func86 rfl rfl rfl λg=>?_
 have f:=g.sl 1 rfl;have e:aO X [(105,AL)]:=.cons HZ .nil;refine af e [] 100 rfl ab ?_;refine AK.eg (λi=>i<=ps.length/\b9 k ps n=b9 k (ps.drop i) n) (λi:Nat=>[(0,dI k),(1,cP.sl ps),(2,dI n),(8,dI i)]) (λ_=>[]) (λi=>ps.length-i) 0 rfl (by simp[aa.cat,aa,ay.same]) rfl ab ⟨by omega,rfl⟩ ?_
 rintro i ⟨hi,a⟩
 by_cases h:i<ps.length
 ·have d:ps.drop i=ps.getD i (0,[])::ps.drop (i+1):=by rw[tS h,List.getD_eq_getElem?_getD,aj h];rfl
  have c:((ps.getD i cP.bD).1,cK.list (ps.getD i cP.bD).2.length (cK.fn (ps.getD i cP.bD).2))=ps.getD i (0,[]):=by rw[cK.list_fn];rfl
  rw[d,show b9 k (ps.getD i (0,[])::ps.drop (i+1)) n=_ from uf] at a
  cases b:cn k (ps.getD i (0,[])) n with
  |some q =>
   rw[b] at a;refine af e [(14,true),(27,true)] 100 rfl ?_ (AK.dW (aW.zero rfl ?_))
   ·simp[-List.getD_eq_getElem?_getD,aa,c,b,h,cK.ae]
   ·simp[-List.getD_eq_getElem?_getD,aa,aa.cat,c,b,a]
  |none =>
   rw[b] at a;refine af e [(14,true),(27,false)] 100 rfl ?_ (AK.cR (i+1) rfl (by simp[aa.cat,aa,ay.same]) rfl ab ⟨h,a⟩ (by omega))
   simp[-List.getD_eq_getElem?_getD,aa,c,b,h,aB,cK.ae];omega
 ·obtain rfl:i=ps.length:=by omega
  refine aF [(14,false)] 100 rfl (by simp[aa]) (AK.leave rfl rfl ?_)
  exact bw rfl ab (AK.au rfl (by rw[a,List.drop_length];simp[aa,aa.cat,b9]))
abbrev wZ:bH:=CY aI (aL cP) aI (λk ps n=>u6 (b9 k ps n)) λ_ _ _=>[]
theorem E9:bU X 86 wZ:=.Je λk ps n _=>y4 k ps n
theorem Fa(a b:List Bs):Ev X 107 [cS.sl a,cS.sl b] [] (dB (a==b)) []:=by
 refine Ev.body Tryz.func107 rfl rfl rfl λm=>?_
 have k:=m.sl 0 rfl
 by_cases g:a.length=b.length
 rotate_left
 ·have:(a==b)=false:=eZ.2 (by rintro rfl;exact g rfl)
  exact aF [(10,true)] 100 rfl (by simp[aa];omega) (AK.au rfl (by simp[aa,this]))
 refine aF [(10,false)] 100 rfl (by simp[aa];omega) ?_
 refine AK.eg (λi=>i<=a.length/\∀ j,j<i->a.getD j []=b.getD j []) (λi:Nat=>[(0,cS.sl a),(1,cS.sl b),(5,dI i)]) (λ_=>[]) (λi=>a.length-i) 0 rfl (by simp[aa.cat,aa,ay.same]) rfl ab ⟨by omega,by omega⟩ ?_
 rintro i ⟨hi,c⟩
 by_cases h:i<a.length
 ·have f:∀ l:List Bs,l.getD i cS.bD=l.getD i []:=λ_=>rfl
  by_cases d:a.getD i []=b.getD i []
  ·refine aF [(14,true),(25,false)] 100 rfl ?_ (AK.cR (i+1) rfl (by simp[aa.cat,aa,ay.same]) rfl ab ⟨h,λj e=>?_⟩ (by omega))
   ·simp[-List.getD_eq_getElem?_getD,aa,f,d,aB];omega
   ·rcases dG.1 e with e|rfl
    ·exact c j e
    ·exact d
  ·refine aF [(14,true),(25,true)] 100 rfl ?_ (AK.dW (aW.zero rfl ?_))
   ·simp[-List.getD_eq_getElem?_getD,aa,f,d];omega
   ·have:(a==b)=false:=eZ.2 (by rintro rfl;exact d rfl)
    simp[aa,this]
 ·obtain rfl:i=a.length:=by omega
  have:a=b:=pO g λj d n=>by rw[<-qe d,<-qe n];exact c j d
  refine aF [(14,false)] 100 rfl (by simp[aa]) (AK.leave rfl rfl ?_)
  exact bw rfl ab (AK.au rfl (by simp[aa,this]))
theorem K5:bU X 107 HH:=.gX λa b _=>Fa a b
theorem pc(t:Bs):∀ k f p,p∈eT t k f->p.length<=8
 |0,_,p,h=>by simp[eT] at h
 |k+1,f,p,h=>by
  simp only[eT] at h;split at h
  ·rename_i a
   rcases dy.1 h with rfl|h
   ·have:=lZ t f a;simp only[List.length_take,kI];omega
   ·exact pc t k _ p h
  ·cases h
theorem vh{l:List Bs}{p:Bs}(h:p∈l)(b:8<p.length):dY l=none:=by
 unfold dY;rw[an];intro a;simp only[bF,gf] at a;have:=pc l.flatten l.flatten.length 0 p (by rw[show eT l.flatten l.flatten.length 0=l from a.2];exact h)
 omega
theorem pD(l:List Bs)(i:Nat):(l.take i).flatten.length<=l.flatten.length:=by
 have:l.flatten=(l.take i).flatten++(l.drop i).flatten:=by rw[<-ue,jT]
 rw[this,bc];omega
theorem y5{l:List Bs}{i:Nat}(h:40<(l.take i).flatten.length):dY l=none:=by
 have:=pD l i;unfold dY;rw[an];intro a;simp only[bF,dm,aD] at a;omega
theorem Fb(l:List Bs):Ev X 87 [cS.sl l] [] (u6 (dY l)) []:=by
 refine Ev.body Tryz.func87 rfl rfl rfl λm=>?_
 have k:=m.sl 0 rfl;have a:aO X [(106,H3),(108,Jo),(107,HH)]:=.cons t106 (.cons NR (.cons K5 .nil));refine af a [] 100 rfl ab ?_;refine AK.eg (λi=>i<=l.length/\(l.take i).flatten.length<=48) (λi:Nat=>[(0,cS.sl l),(4,dS (l.take i).flatten),(5,dI i)]) (λ_=>[]) (λi=>l.length-i) 0 rfl (by simp[aa.cat,aa,ay.same]) rfl ab ⟨by omega,by simp⟩ ?_
 rintro i ⟨hi,f⟩
 by_cases h:i<l.length
 ·have e:l.getD i cS.bD=l.getD i []:=rfl;have j:(l.take (i+1)).flatten=(l.take i).flatten++l.getD i []:=by rw[bx h []];simp
  by_cases b:(l.getD i []).length<=8
  ·by_cases c:(l.take i).flatten.length<=40
   ·refine af a [(9,true),(18,false),(22,false)] 100 rfl ?_ (AK.cR (i+1) rfl ?_ rfl ab ⟨h,by rw[j,bc];omega⟩ (by omega))
    ·simp[-List.getD_eq_getElem?_getD,-List.length_flatten,aa,e,aB];omega
    ·simp only[aa.cat,aa,j,ai,ah];exact⟨ay.same,rfl,rfl⟩
   ·refine af a [(9,true),(18,false),(22,true)] 100 rfl ?_ (AK.dW (aW.zero rfl ?_))
    ·simp[-List.getD_eq_getElem?_getD,-List.length_flatten,aa,e];omega
    ·simp[aa,aa.cat,y5 (l:=l) (i:=i) (by omega)]
  ·refine af a [(9,true),(18,true),(22,true)] 100 rfl ?_ (AK.dW (aW.zero rfl ?_))
   ·simp[-List.getD_eq_getElem?_getD,aa,e];omega
   ·simp[aa,aa.cat,vh (cJ (d:=[]) h) (by omega)]
 ·obtain rfl:i=l.length:=by omega
  rw[cZ] at f ⊢;refine af a [(9,false)] 100 rfl (by simp[aa]) (AK.leave rfl rfl ?_)
  have el:=cS.list_fn l;cases b:dm l.flatten with
  |false=>exact af a [(32,true),(38,true)] 100 rfl (by simp[aa,b]) (AK.au rfl (by simp[aa,aa.cat,dY,b]))
  |true =>
   have g:bn l.flatten=true:=by simp only[dm,bF] at b;exact b.2
   cases c:(pieces l.flatten==l) with
   |false =>
    refine af a [(32,false),(38,true)] 100 rfl ?_ (AK.au rfl (by simp[aa,aa.cat,dY,c]))
    simp[-List.length_flatten,aa,b,g,el,cS.list_fn,cS.ae,by simpa using c];omega
   |true =>
    refine af a [(32,false),(38,false)] 100 rfl ?_ (AK.au rfl (by simp[aa,aa.cat,dY,b,c]))
    simp[-List.length_flatten,aa,b,g,el,cS.list_fn,cS.ae,by simpa using c];omega
abbrev Fc:bH:=fY (aL cS) (λl=>u6 (dY l)) λ_=>[]
theorem K6:bU X 87 Fc:=.jo λl _=>Fb l
abbrev OS(s:cy):ak:=.cells 83 [.c (.int .i64 s.1),.c (.sl false 2 s.2.length (cL.fn s.2))]
abbrev C0(k:Int)(ps:List aR)(ns:List Int):List Bs:=ns.map λn=>(b9 k ps n).getD []
theorem H4{k:Int}{ps:List aR}{ns:List Int}{j:Nat}(h:j<ns.length):C0 k ps (ns.take (j+1))=C0 k ps (ns.take j)++[(b9 k ps (ns.getD j 0)).getD []]:=by
 rw[bx h 0,C0,ni];rfl
theorem w5{k:Int}{ps:List aR}{ns:List Int}{j:Nat}(h:j<ns.length)(a:b9 k ps (ns.getD j 0)=none):cO k ps ns=none:=by
 unfold cO;rw[an];intro b;have:=List.all_eq_true.1 b _ (cJ (d:=0) h);rw[a] at this;cases this
theorem vi{k:Int}{ps:List aR}{ns:List Int}(h:∀ j,j<ns.length->(b9 k ps (ns.getD j 0)).isSome=true):cO k ps ns=some (C0 k ps ns):=by
 unfold cO;rw[aq];refine List.all_eq_true.2 λx b=>?_
 obtain⟨j,a,rfl⟩:=jV.1 b;have:=h j a
 rwa [List.getD_eq_getElem?_getD,aj a] at this
set_option maxHeartbeats 4000000 in
theorem vj(k:Int)(s:cy)(ps:List aR)(J:s.2.length<=4000000)(H:∀ x∈s.2,x.2.length<=4000000) :
  Ev X 66 [dI k,KF s,cP.sl ps] [] (Nv ((b0 k s ps).getD []) (b0 k s ps).isSome) []:=by
 refine Ev.body Tryz.func66 rfl rfl rfl λK=>?_
 have a:aO X [(47,wW),(86,wZ),(87,Fc),(88,OT)]:=.cons AJ (.cons E9 (.cons K6 (.cons t88 .nil)));cases A:bO k with
 |false =>
  refine af a [(19,true)] 100 rfl ?_ (AK.au rfl ?_)
  ·simp[aa,A]
  ·simp[aa,aa.cat,b0,A,ay.nil]
 |true =>
 refine af a [(19,false),(1000004,true)] 100 rfl (by simp[aa,A]) ?_
 refine AK.lS 8 148 2 rfl rfl ?_;refine af a [] 100 rfl ab ?_;refine AK.bY 2 (λi=>i<=s.2.length/\∀ j,j<i->(fileOf k ps (s.2.getD j ([],[]))).isSome=true) (λi:Nat=>[(0,dI k),(2,cP.sl ps),(4,.e (.one (.ptr 0 0))),(8,.e (.one (.vec 1 2 (bR k ps (s.2.take i)).length (cF.fn (bR k ps (s.2.take i)))))),(9,dI i)]) (λi=>[OS s,.vec 148 2 (bR k ps (s.2.take i)).length (cF.fn (bR k ps (s.2.take i)))]) (λi=>s.2.length-i) 0 rfl (by simp[aa.cat,aa,ay.same,ay.nil,bR]) rfl (by simp[aa.cat,aa,ay.same,ay.nil,bR]) rfl ⟨by omega,by omega⟩ ?_
 rintro i ⟨hi,g⟩
 by_cases h:i<s.2.length
 ·have E:=H _ (cJ (d:=([],[])) h);have f:=l0 (k:=k) (ps:=ps) h;have F:(bR k ps (s.2.take i)).length=i:=by simp[bR];omega
  have b:s.2.getD (i:Int).toNat cL.bD=s.2.getD i ([],[]):=by rw[az];rfl
  have l:=l3 (k:=k) (ps:=ps) h;generalize B:s.2.getD i ([],[])=x at E f b l;generalize bR k ps (s.2.take i)=fs at *;refine af a [(25,true),(1000008,true)] 100 rfl (by simp[aa];omega) ?_
  refine AK.lS 10 9 1 rfl rfl ?_;refine af a [] 100 rfl ab ?_;refine AK.bY 3 (λj=>j<=x.2.length/\∀ q,q<j->(b9 k ps (x.2.getD q 0)).isSome=true) (λj:Nat=>[(0,dI k),(2,cP.sl ps),(4,.e (.one (.ptr 0 0))),(8,.e (.one (.vec 1 2 fs.length (cF.fn fs)))),(9,dI i),(10,.e (.one (.vec 2 1 (C0 k ps (x.2.take j)).length (cS.fn (C0 k ps (x.2.take j)))))),(11,dI j)]) (λj=>[OS s,.vec 148 2 fs.length (cF.fn fs),.vec 9 1 (C0 k ps (x.2.take j)).length (cS.fn (C0 k ps (x.2.take j)))]) (λj=>x.2.length-j) 0 rfl (by simp[aa.cat,aa,ay.same,ay.nil]) rfl (by simp[aa.cat,aa,ay.same,ay.nil]) rfl ⟨by omega,by omega⟩ ?_
  rintro j ⟨C,u⟩
  by_cases D:j<x.2.length
  ·have c:x.2.getD (j:Int).toNat cI.bD=x.2.getD j 0:=by rw[az];rfl
   cases o:b9 k ps (x.2.getD j 0) with
   |none =>
    have e:fileOf k ps x=none:=by simp[fileOf,w5 D o]
    refine af a [(37,true),(56,true)] 100 rfl ?_ (AK.cV (AK.nR (aW.zero rfl ?_)))
    ·simp only[aa,b,c,o,cP.list_fn,cP.ae];simp;omega
    ·rw[l e];simp[aa,aa.cat,ay.nil]
   |some q =>
    have m:=H4 (k:=k) (ps:=ps) D;rw[o] at m;have v:(C0 k ps (x.2.take j)).length=j:=by simp;omega
    have y:=cS.eU (C0 k ps (x.2.take j)) q;refine af a [(37,true),(56,false)] 100 rfl ?_ (AK.aA (j+1) rfl ?_ rfl rfl rfl ?_ rfl ⟨D,λr n=>?_⟩ (by omega))
    ·simp only[aa,b,c,o,cP.list_fn,cP.ae,v,aB,show i9.bytes=16 from rfl];simp;omega
    ·rw[m];simp only[aa.cat,aa,b,c,o,cP.list_fn,bc,fw,ai,ah]
     and_intros <;> first|exact ay.same|exact y|rfl|omega
    ·rw[m];simp only[aa.cat,aa,b,c,o,cP.list_fn,bc,fw,ai,ah]
     and_intros <;> first|exact ay.same|exact y|rfl|omega
    ·rcases dG.1 n with n|rfl
     ·exact u r n
     ·rw[o];rfl
  ·obtain rfl:j=x.2.length:=by omega
   have w:=vi u;rw[cZ];have v:(C0 k ps x.2).length=x.2.length:=by simp
   refine af a [(37,false)] 100 rfl (by simp only[aa,b];simp[h]) (AK.leaveD rfl rfl ?_)
   cases p:dY (C0 k ps x.2) with
   |none =>
    have e:fileOf k ps x=none:=by simp[fileOf,w,p]
    refine af a [(68,true)] 100 rfl ?_ (AK.cV (aW.zero rfl ?_))
    ·simp only[aa,cS.list_fn,cS.ae,p];simp
    ·rw[l e];simp[aa,aa.cat,ay.nil]
   |some t =>
    have e:fileOf k ps x=some (x.1,t):=by simp[fileOf,w,p]
    rw[e] at f;have G:=cF.eU fs (x.1,t);refine af a [(68,false)] 100 rfl ?_ (AK.aA (i+1) rfl ?_ rfl rfl rfl ?_ rfl ⟨h,λr n=>?_⟩ (by omega))
    ·simp only[aa,b,cS.list_fn,cS.ae,p,F,aB,show i148.bytes=32 from rfl];simp;omega
    ·rw[f];simp only[aa.cat,aa,b,cS.list_fn,p,cp,bc,fw,ai,ah]
     and_intros <;> first|exact ay.same|exact G|rfl|omega
    ·rw[f];simp only[aa.cat,aa,b,cS.list_fn,p,cp,bc,fw,ai,ah]
     and_intros <;> first|exact ay.same|exact G|rfl|omega
    ·rcases dG.1 n with n|rfl
     ·exact g r n
     ·rw[B,e];rfl
 ·obtain rfl:i=s.2.length:=by omega
  rw[cZ];have I:s.2.all (λx=>(fileOf k ps x).isSome)=true:=List.all_eq_true.2 λx E=>by
   obtain⟨j,C,rfl⟩:=jV.1 E;have:=g j C;simpa[List.getD_eq_getElem?_getD,aj C] using this
  refine af a [(25,false)] 100 rfl (by simp[aa]) (AK.leaveD rfl rfl ?_)
  cases z:im (bR k ps s.2) with
  |false =>
   refine af a [(83,true)] 100 rfl ?_ (AK.au rfl ?_)
   ·simp[aa,cF.list_fn,cF.ae,z]
   ·simp[aa,aa.cat,b0,z,ay.nil]
  |true =>
   refine af a [(83,false)] 100 rfl ?_ (AK.au rfl ?_)
   ·simp[aa,cF.list_fn,cF.ae,z]
   ·simp[aa,aa.cat,b0,z,A,I,ay.same]
abbrev rG:bH:=CY aI (na cL) (aL cP) (λk s ps=>Nv ((b0 k s ps).getD []) (b0 k s ps).isSome) λ_ s _=>[s.2.length<=4000000,∀ x∈s.2,x.2.length<=4000000]
theorem y6:bU X 66 rG:=.Je λk s ps h=>vj k s ps h.1 h.2
abbrev gu:=Int×Int
def fD(h:gu):Bool:=decide (1<=h.1/\h.1<=2)&&decide (1<=h.2/\h.2<=20)
def mM(l:List gu):Bool:=(List.range l.length).all (λi=>fD (l.getD i (0,0)))&&decide (l.length<=9)
abbrev QD(h:gu):D:=.e (.agg [.c (.int .i64 h.1),.c (.int .i64 h.2)])
theorem B6(h:gu):Ev X 67 [QD h] [] (dB (fD h)) []:=by
 refine Ev.body Tryz.func67 rfl rfl rfl λb=>?_
 have a:aO X [(14,wR)]:=.cons y0 .nil
 by_cases c:1<=h.1/\h.1<=2
 ·exact af a [(6,true)] 100 rfl (by simp[aa,c]) (AK.au rfl (by simp[aa,fD,c]))
 ·exact af a [(6,false)] 100 rfl (by simp[aa];omega) (AK.au rfl (by simp only[aa,fD,bV c];simp))
theorem B7(l:List gu):Ev X 48 [cH.sl l] [] (dB (mM l)) []:=by
 refine Ev.body Tryz.func48 rfl rfl rfl λf=>?_
 have e:=f.sl 0 rfl;have b:aO X [(67,fY tf (λh=>dB (fD h)) λ_=>[])]:=.cons (.jo λh _=>B6 h) .nil
 refine af b [] 100 rfl ab ?_;unfold mM;refine AK.eg (λi=>i<=l.length/\∀ j,j<i->fD (l.getD j (0,0))=true) (λi:Nat=>[(0,cH.sl l),(3,dI i)]) (λ_=>[]) (λi=>l.length-i) 0 rfl (by simp[aa.cat,aa,ay.same]) rfl ab ⟨by omega,by omega⟩ ?_
 rintro i ⟨hi,a⟩
 by_cases h:i<l.length
 ·have d:l.getD i cH.bD=l.getD i (0,0):=rfl;cases c:fD (l.getD i (0,0)) with
  |false =>
   refine af b [(7,true),(15,true)] 100 rfl ?_ (AK.dW (aW.zero rfl ?_))
   ·simp[-List.getD_eq_getElem?_getD,aa,d,c,h]
   ·rw[cw h c];simp[aa]
  |true =>
   refine af b [(7,true),(15,false)] 100 rfl ?_ (AK.cR (i+1) rfl (by simp[aa.cat,aa,ay.same]) rfl ab ⟨h,dn a c⟩ (by omega))
   simp[-List.getD_eq_getElem?_getD,aa,d,c,h,aB];omega
 ·obtain rfl:i=l.length:=by omega
  refine af b [(7,false)] 100 rfl (by simp[aa]) (AK.leave rfl rfl ?_)
  exact af b [] 100 rfl ab (AK.au rfl (by rw[ba.2 a];simp[aa];omega))
abbrev qh:bH:=fY (aL cH) (λl=>dB (mM l)) λ_=>[]
theorem H5:bU X 48 qh:=.jo λl _=>B7 l
def aK(ps:List aR):List Int:=ps.flatMap λp=>p.2.map (·.1)
def w6{α:Type}(f:α->Int)(d:α)(l:List α)(i:Nat):Bool:=i==0||decide (f (l.getD (i-1) d)<f (l.getD i d))
def m6(k:Int)(ps:List aR)(i:Nat):Bool:=gO k (ps.getD i (0,[]))&&w6 (·.1) (0,[]) ps i
def j4(k:Int)(s:cM)(i:Nat):Bool:=decide (1<=(s.2.1.getD i (0,[])).1/\(s.2.1.getD i (0,[])).1<=20)&&w6 (·.1) (0,[]) s.2.1 i&&(b0 k (s.2.1.getD i (0,[])) s.1).isSome
def gv(k:Int)(s:cM):Bool:=(List.range s.1.length).all (m6 k s.1)&&decide (aK s.1).Nodup&&(List.range s.2.1.length).all (j4 k s)&&bO k&&mM s.2.2&&decide (s.1.length<=20)
theorem rH{ps:List aR}{i:Nat}(h:i<ps.length):aK (ps.take (i+1))=aK (ps.take i)++(ps.getD i (0,[])).2.map (·.1):=by
 rw[bx h (0,[])];simp[aK]
theorem B8{ps:List aR}{i:Nat}(h:¬(aK (ps.take i)).Nodup):¬(aK ps).Nodup:=λa=>h (by
 have:aK ps=aK (ps.take i)++aK (ps.drop i):=by unfold aK;rw[<-pK,jT]
 rw[this] at a;exact(List.nodup_append.1 a).1)
theorem rJ{l:List Int}{n:Int}:(l++[n]).Nodup↔l.Nodup/\n∉l:=by
 rw[List.nodup_append];simp;intro _;exact⟨λh c=>h n c rfl,λh a b e=>h (e▸b)⟩
abbrev GG(s:cM):ak:=.cells 41 [.c (.sl false 2 s.1.length (cP.fn s.1)),.c (.sl false 2 s.2.1.length (cG.fn s.2.1)),.c (.sl false 2 s.2.2.length (cH.fn s.2.2))]
theorem Fe(k:Int)(s:cM)(x:cy)(a:x.2.length<=4000000)(c:∀ y∈x.2,y.2.length<=4000000):Ev X 46 [dI k,BN s,KF x] [] (dB (b0 k x s.1).isSome) []:=by
 refine Ev.body Tryz.func46 rfl rfl rfl λd=>?_
 have b:aO X [(66,rG)]:=.cons y6 .nil;have e:(x.1,cL.list x.2.length (cL.fn x.2))=x:=by rw[cL.list_fn]
 refine af b [] 100 rfl ?_ (AK.au rfl ?_)
 ·simp only[aa,cL.list_fn,cL.ae,cP.ae,a,ai,ah];exact c
 ·simp[aa,aa.cat,cL.list_fn,cP.list_fn]
abbrev Ff:bH:=CY aI Ay (na cL) (λk s x=>dB (b0 k x s.1).isSome) λ_ _ x=>[x.2.length<=4000000,∀ y∈x.2,y.2.length<=4000000]
theorem K7:bU X 46 Ff:=.Je λk s x h=>Fe k s x h.1 h.2
theorem mx{α:Type}{f:α->Int}{d:α}{l:List α}{i:Nat}(h:i≠0):w6 f d l i=decide (f (l.getD (i-1) d)<f (l.getD i d)):=by
 unfold w6;rw[show (i==0)=false by simpa using h,pS]
set_option maxHeartbeats 4000000 in
theorem w7(k:Int)(s:cM)(P:rn s)(T:s.1.length<=4000000)(S:s.2.1.length<=4000000):Ev X 28 [dI k,BN s] [] (dB (gv k s)) []:=by
 refine Ev.body Tryz.func28 rfl rfl rfl λV=>?_
 have g:aO X [(45,wY),(27,E8),(14,wR),(46,Ff),(47,wW),(48,qh)]:=.cons E7 (.cons Jr (.cons y0 (.cons K7 (.cons AJ (.cons H5 .nil)))));refine af g [(1000002,true)] 100 rfl ab ?_;refine AK.lS 5 3 1 rfl rfl ?_;refine af g [] 100 rfl ab ?_;unfold gv;refine AK.bY 2 (λi=>i<=s.1.length/\(∀ j,j<i->m6 k s.1 j=true)/\(aK (s.1.take i)).Nodup/\(aK (s.1.take i)).length<=4*i) (λi:Nat=>[(0,dI k),(3,.e (.one (.ptr 0 0))),(5,.e (.one (.vec 1 1 (aK (s.1.take i)).length (cI.fn (aK (s.1.take i)))))),(6,dI i)]) (λi=>[GG s,.vec 3 1 (aK (s.1.take i)).length (cI.fn (aK (s.1.take i)))]) (λi=>s.1.length-i) 0 rfl (by simp[aa.cat,aa,ay.nil,aK]) rfl (by simp[aa.cat,aa,ay.nil,ay.same,aK]) rfl ⟨by omega,by omega,by simp[aK],by simp[aK]⟩ ?_
 rintro i ⟨hi,m,B,Q⟩
 by_cases h:i<s.1.length
 ·have x:=rH h;have I:=B8 (ps:=s.1) (i:=i+1);have q:s.1.getD i cP.bD=s.1.getD i (0,[]):=rfl;have t:s.1.getD (i-1) cP.bD=s.1.getD (i-1) (0,[]):=rfl;have c:m6 k s.1 i=(gO k (s.1.getD i (0,[]))&&w6 (·.1) (0,[]) s.1 i):=rfl;have u:=mx (f:=λp:aR=>p.1) (d:=(0,[])) (l:=s.1) (i:=i)
  generalize L:s.1.getD i (0,[])=p at *;generalize s.1.getD (i-1) (0,[])=p' at *;cases y:gO k p with
  |false =>
   rw[y,kP] at c;refine af g [(14,true),(25,true),(44,true)] 100 rfl ?_ (AK.cV (aW.zero rfl ?_))
   ·simp[-List.getD_eq_getElem?_getD,aa,q,y,cK.list_fn,cK.ae,h]
   ·rw[cw h c];simp[aa]
  |true =>
   have U:p.2.length<=4:=by rw[pb] at y;simp only[bF,aD] at y;exact y.1.2.2
   rw[y,ck] at c;cases o:w6 (·.1) (0,[]) s.1 i with
   |false =>
    have v:i≠0:=by rintro rfl;cases o
    have G:¬p'.1<p.1:=by rw[u v] at o;exact of_decide_eq_false o
    refine af g [(14,true),(25,false),(28,true),(42,true),(44,true)] 100 rfl ?_ (AK.cV (aW.zero rfl ?_))
    ·simp[-List.getD_eq_getElem?_getD,aa,q,t,y,cK.list_fn,cK.ae,h,aB];omega
    ·rw[cw h (c.trans o)];simp[aa]
   |true =>
   rw[o] at c
   apply AK.join [(0,dI k),(3,.e (.one (.ptr 0 0))),(5,.e (.one (.vec 1 1 (aK (s.1.take i)).length (cI.fn (aK (s.1.take i)))))),(6,dI i),(7,dI 0)] [GG s,.vec 3 1 (aK (s.1.take i)).length (cI.fn (aK (s.1.take i)))]
   ·intro E
    by_cases v:i=0
    ·subst v;refine af g [(14,true),(25,false),(28,false),(44,false)] 100 rfl ?_ (E _ _ rfl ?_)
     ·simp[-List.getD_eq_getElem?_getD,aa,q,y,cK.list_fn,cK.ae,h]
     ·simp[aa.cat,aa,ay.same]
    ·have G:p'.1<p.1:=by rw[u v] at o;exact kH o
     refine af g [(14,true),(25,false),(28,true),(42,false),(44,false)] 100 rfl ?_ (E _ _ rfl ?_)
     ·simp[-List.getD_eq_getElem?_getD,aa,q,t,y,cK.list_fn,cK.ae,h,aB];omega
     ·simp[aa.cat,aa,ay.same]
   generalize aK (s.1.take i)=ns at *;refine AK.bY 2 (λj=>j<=p.2.length/\(ns++(p.2.take j).map (·.1)).Nodup) (λj:Nat=>[(0,dI k),(3,.e (.one (.ptr 0 0))),(5,.e (.one (.vec 1 1 (ns++(p.2.take j).map (·.1)).length (cI.fn (ns++(p.2.take j).map (·.1)))))),(6,dI i),(7,dI j)]) (λj=>[GG s,.vec 3 1 (ns++(p.2.take j).map (·.1)).length (cI.fn (ns++(p.2.take j).map (·.1)))]) (λj=>p.2.length-j) 0 rfl (by simp[aa.cat,aa,ay.same]) rfl (by simp[aa.cat,aa,ay.same]) rfl ⟨by omega,by simpa using B⟩ ?_
   rintro j ⟨R,A⟩
   by_cases w:j<p.2.length
   ·have F:p.2.getD j cK.bD=dT p j:=rfl;have z:ns++(p.2.take (j+1)).map (·.1)=(ns++(p.2.take j).map (·.1))++[(dT p j).1]:=by rw[bx w (0,[])];simp
    have D:(ns++(p.2.take j).map (·.1)).length=ns.length+j:=by simp;omega
    generalize ns++(p.2.take j).map (·.1)=a at *;cases H:a.contains (dT p j).1 with
    |true =>
     refine af g [(53,true),(67,true)] 100 rfl ?_ (AK.cV (AK.nR (aW.zero rfl ?_)))
     ·simp[-List.getD_eq_getElem?_getD,-List.contains_eq_mem,aa,q,F,h,w,H,cI.list_fn,cI.ae]
     ·have K:¬(aK s.1).Nodup:=I (by
       have e:ns++p.2.map (·.1)=(ns++(p.2.take (j+1)).map (·.1))++(p.2.drop (j+1)).map (·.1):=by rw[c9,<-ni,jT]
       rw[x,e,z];intro K;exact(rJ.1 (List.nodup_append.1 K).1).2 (by simpa using H))
      simp[aa,K]
    |false =>
     have O:=cI.eU a (dT p j).1;have M:cI.list (ns.length+j) (cI.fn a)=a:=by rw[<-D];exact cI.list_fn a
     refine af g [(53,true),(67,false)] 100 rfl ?_ (AK.aA (j+1) rfl ?_ rfl rfl rfl ?_ rfl ⟨w,?_⟩ (by omega))
     ·simp[-List.getD_eq_getElem?_getD,-List.contains_eq_mem,aa,q,F,h,w,H,cI.list_fn,cI.ae,D,M,aB,show i3.bytes=8 from rfl];omega
     ·rw[z];simp only[aa.cat,aa,az,q,F,bc,fw,ai,ah]
      and_intros <;> first|exact ay.same|exact O|rfl|omega
     ·rw[z];simp only[aa.cat,aa,az,q,F,bc,fw,ai,ah]
      and_intros <;> first|exact ay.same|exact O|rfl|omega
     ·rw[z,rJ];exact⟨A,by simpa using H⟩
   ·obtain rfl:j=p.2.length:=by omega
    rw[cZ] at A ⊢;refine af g [(53,false)] 100 rfl ?_ (AK.leaveD rfl rfl ?_)
    ·simp[-List.getD_eq_getElem?_getD,aa,q,h]
    refine af g [] 100 rfl ?_ (AK.aA (i+1) rfl ?_ rfl rfl rfl ?_ rfl ⟨h,dn m c,by rw[x];exact A,by rw[x];simp;omega⟩ (by omega))
    ·simp[aa,aB];omega
    ·rw[x];simp[aa.cat,aa,ay.same]
    ·rw[x];simp[aa.cat,aa,ay.same]
 obtain rfl:i=s.1.length:=by omega
 rw[cZ] at B ⊢;refine af g [(14,false)] 100 rfl (by simp[aa]) (AK.leaveD rfl rfl ?_)
 refine af g [] 100 rfl ab ?_;rw[ba.2 m,aQ B,ck,ck];generalize aK s.1=ns;refine AK.bY 2 (λi=>i<=s.2.1.length/\(∀ j,j<i->j4 k s j=true)) (λi:Nat=>[(0,dI k),(3,.e (.one (.ptr 0 0))),(8,dI i)]) (λ_=>[GG s,.vec 3 1 ns.length (cI.fn ns)]) (λi=>s.2.1.length-i) 0 rfl (by simp[aa.cat,aa]) rfl (by simp[aa.cat,aa,ay.same]) rfl ⟨by omega,by omega⟩ ?_
 rintro i ⟨hi,m⟩
 by_cases h:i<s.2.1.length
 ·have q:s.2.1.getD i cG.bD=s.2.1.getD i (0,[]):=rfl;have t:s.2.1.getD (i-1) cG.bD=s.2.1.getD (i-1) (0,[]):=rfl;have n:=P _ (cJ (d:=(0,[])) h);have c:j4 k s i=(decide (1<=(s.2.1.getD i (0,[])).1/\(s.2.1.getD i (0,[])).1<=20)&&w6 (·.1) (0,[]) s.2.1 i&&(b0 k (s.2.1.getD i (0,[])) s.1).isSome):=rfl;have u:=mx (f:=λp:cy=>p.1) (d:=(0,[])) (l:=s.2.1) (i:=i)
  generalize L:s.2.1.getD i (0,[])=p at *;generalize s.2.1.getD (i-1) (0,[])=p' at *
  by_cases C:1<=p.1/\p.1<=20
  rotate_left
  ·refine af g [(85,true),(96,true),(116,true),(126,true)] 100 rfl ?_ (AK.cV (aW.zero rfl ?_))
   ·simp[-List.getD_eq_getElem?_getD,aa,q,h];omega
   ·rw[cw h (by rw[c,bV C];rfl)];simp[aa]
  cases o:w6 (·.1) (0,[]) s.2.1 i with
  |false =>
   have v:i≠0:=by rintro rfl;cases o
   have G:¬p'.1<p.1:=by rw[u v] at o;exact of_decide_eq_false o
   refine af g [(85,true),(96,false),(99,true),(113,true),(116,true),(126,true)] 100 rfl ?_ (AK.cV (aW.zero rfl ?_))
   ·simp[-List.getD_eq_getElem?_getD,aa,q,t,h,C,aB];omega
   ·rw[cw h (by rw[c,o,kQ,kP])];simp[aa]
  |true =>
   rw[aQ C,o,ck,ck] at c;cases w:(b0 k p s.1).isSome with
   |false =>
    by_cases v:i=0
    ·subst v;refine af g [(85,true),(96,false),(99,false),(116,false),(126,true)] 100 rfl ?_ (AK.cV (aW.zero rfl ?_))
     ·simp[-List.getD_eq_getElem?_getD,aa,q,h,C,cL.list_fn,cL.ae,cP.list_fn,cP.ae,cG.ae,cH.ae,w,n.1];exactλa b r=>n.2 (a,b) r
     ·rw[cw h (c.trans w)];simp[aa]
    ·have G:p'.1<p.1:=by rw[u v] at o;exact kH o
     refine af g [(85,true),(96,false),(99,true),(113,false),(116,false),(126,true)] 100 rfl ?_ (AK.cV (aW.zero rfl ?_))
     ·simp[-List.getD_eq_getElem?_getD,aa,q,t,h,C,aB,cL.list_fn,cL.ae,cP.list_fn,cP.ae,cG.ae,cH.ae,w,n.1];and_intros <;> first|omega|exactλa b r=>n.2 (a,b) r
     ·rw[cw h (c.trans w)];simp[aa]
   |true =>
    rw[w] at c
    by_cases v:i=0
    ·subst v;refine af g [(85,true),(96,false),(99,false),(116,false),(126,false)] 100 rfl ?_ (AK.aA 1 rfl (by simp[aa.cat,aa]) rfl rfl rfl (by simp[aa.cat,aa,ay.same]) rfl ⟨h,dn m c⟩ (by omega))
     simp[-List.getD_eq_getElem?_getD,aa,q,h,C,aB,cL.list_fn,cL.ae,cP.list_fn,cP.ae,cG.ae,cH.ae,w,n.1];exactλa b r=>n.2 (a,b) r
    ·have G:p'.1<p.1:=by rw[u v] at o;exact kH o
     refine af g [(85,true),(96,false),(99,true),(113,false),(116,false),(126,false)] 100 rfl ?_ (AK.aA (i+1) rfl (by simp[aa.cat,aa]) rfl rfl rfl (by simp[aa.cat,aa,ay.same]) rfl ⟨h,dn m c⟩ (by omega))
     simp[-List.getD_eq_getElem?_getD,aa,q,t,h,C,aB,cL.list_fn,cL.ae,cP.list_fn,cP.ae,cG.ae,cH.ae,w,n.1];and_intros <;> first|omega|exactλa b r=>n.2 (a,b) r
 obtain rfl:i=s.2.1.length:=by omega
 refine af g [(85,false)] 100 rfl (by simp[aa]) (AK.leaveD rfl rfl ?_)
 rw[ba.2 m,ck];cases J:bO k
 ·exact af g [(129,false),(134,false)] 100 rfl (by simp[aa,J]) (AK.au rfl (by simp[aa]))
 cases N:mM s.2.2
 ·exact af g [(129,true),(134,false)] 100 rfl (by simp[aa,J,N,cH.list_fn,cH.ae]) (AK.au rfl (by simp[aa]))
 exact af g [(129,true),(134,true)] 100 rfl (by simp[aa,J,N,cH.list_fn,cH.ae]) (AK.au rfl (by simp[aa];omega))
abbrev tp:bH:=ga aI Ay (λk s=>dB (gv k s)) λ_ s=>[rn s,s.1.length<=4000000,s.2.1.length<=4000000]
theorem B9:bU X 28 tp:=.gX λk s h=>w7 k s h.1 h.2.1 h.2.2
def fi(n:Int)(a:List Int×Bool) (y:Int):List Int×Bool :=
 if a.2=true then (if y=n then a else (a.1++[y],true)) else if n<=y then (if y=n then (a.1++[n],true) else (a.1++[n,y],true)) else (a.1++[y],false)
abbrev lx(n:Int)(l:List Int)(i:Nat):List Int×Bool:=(l.take i).foldl (fi n) ([],false)
def j5(l:List Int) (n:Int):List Int:=if (l.foldl (fi n) ([],false)).2=true then (l.foldl (fi n) ([],false)).1 else (l.foldl (fi n) ([],false)).1++[n]
theorem w8{n:Int}{l:List Int}{i:Nat}(h:i<l.length):lx n l (i+1)=fi n (lx n l i) (l.getD i 0):=by
 unfold lx;rw[bx h 0,nh];rfl
theorem rK(n:Int)(l:List Int):∀ i,i<=l.length->(lx n l i).1.length+(if (lx n l i).2=true then 0 else 1)<=i+1
 |0,_=>by simp[lx]
 |i+1,h=>by
  have:=rK n l i (by omega)
  rw[w8 (by omega)]
  generalize lx n l i=a at *;obtain⟨a,b⟩:=a;unfold fi;cases b with
  |true =>
   simp only[aV] at this ⊢;split <;> simp <;> omega
  |false =>
   simp only[fO,aM] at this ⊢;split
   ·split <;> simp <;> omega
   ·simp;omega
theorem Fg(l:List Int) (n:Int):(j5 l n).length<=l.length+1:=by
 have:=rK n l l.length (ar _);simp only[lx,cZ] at this;unfold j5;split at this <;> rename_i h
 ·rw[aq h];omega
 ·rw[an h];simp;omega
theorem rB{α:Type}(c:jm α)(l:List α)(x y:α):ay (l.length+1+1) (cz (l.length+1) (cz l.length (c.fn l) λq=>[c.enc x].getD q []) λq=>[c.enc y].getD q []) (c.fn (l++[x,y])):=c.rB l x y
theorem Fh(l:List Int) (n:Int)(p:l.length<=100000000):Ev X 44 [cI.sl l,dI n] [] (cI.sl (j5 l n)) []:=by
 refine Ev.body Tryz.func44 rfl rfl rfl λq=>?_
 refine aF [(1000002,true)] 100 rfl ab ?_;refine AK.lS 5 3 1 rfl rfl ?_;refine bw rfl ab ?_;refine AK.bY 1 (λi=>i<=l.length) (λi:Nat=>[(0,cI.sl l),(1,dI n),(5,.e (.one (.vec 0 1 (lx n l i).1.length (cI.fn (lx n l i).1)))),(6,dB (lx n l i).2),(7,dI i)]) (λi=>[.vec 3 1 (lx n l i).1.length (cI.fn (lx n l i).1)]) (λi=>l.length-i) 0 rfl (by simp[lx,aa.cat,aa,ay.same,ay.nil]) rfl (by simp[lx,aa.cat,aa,ay.same,ay.nil]) rfl (by omega) ?_
 intro i hi;have f:=rK n l i hi
 by_cases h:i<l.length
 ·have c:=w8 (n:=n) h;have d:l.getD (i:Int).toNat cI.bD=l.getD i 0:=by rw[az];rfl
  generalize l.getD i 0=y at *;generalize lx n l i=a at *;obtain⟨a,b⟩:=a;have j:=λy=>cI.eU a y
  have o:=λx y=>cI.rB a x y
  have r:(a.length+1+1)*8<=140737488355328:=by simp only at f;split at f <;> omega
  have fin:∀ a',lx n l (i+1)=a'->True:=λ_ _=>trivial
  have k:l.length-(i+1)<l.length-i:=by omega
  by_cases g:y=n
  ·cases b with
   |true =>
    rw[show fi n (a,true) y=(a,true) by simp[fi,g]] at c
    refine aF [(12,true),(34,false)] 100 rfl ?_ (AK.aA (i+1) rfl ?_ rfl rfl rfl ?_ rfl h k)
    ·simp only[aa,d,g,aB];simp;omega
    ·rw[c];simp[aa.cat,aa,ay.same]
    ·rw[c];simp[aa.cat,aa,ay.same]
   |false =>
    rw[show fi n (a,false) y=(a++[n],true) by simp[fi,g]] at c
    refine aF [(12,true),(24,true),(34,false)] 100 rfl ?_ (AK.aA (i+1) rfl ?_ rfl rfl rfl ?_ rfl h k)
    ·simp only[aa,d,g,aB,show i3.bytes=8 from rfl];simp;omega
    ·rw[c];simp only[aa.cat,aa,bc,fw,ai,ah];and_intros <;> first|exact ay.same|exact j n|rfl|omega
    ·rw[c];simp only[aa.cat,aa,bc,fw,ai,ah];and_intros <;> first|exact ay.same|exact j n|rfl|omega
  ·cases b with
   |true =>
    rw[show fi n (a,true) y=(a++[y],true) by simp[fi,g]] at c
    refine aF [(12,true),(34,true)] 100 rfl ?_ (AK.aA (i+1) rfl ?_ rfl rfl rfl ?_ rfl h k)
    ·simp only[aa,d,aB,show i3.bytes=8 from rfl];simp[g];omega
    ·rw[c];simp only[aa.cat,aa,d,bc,fw,ai,ah];and_intros <;> first|exact ay.same|exact j y|rfl|omega
    ·rw[c];simp only[aa.cat,aa,d,bc,fw,ai,ah];and_intros <;> first|exact ay.same|exact j y|rfl|omega
   |false =>
    by_cases m:n<=y
    ·rw[show fi n (a,false) y=(a++[n,y],true) by simp[fi,g,m]] at c
     refine aF [(12,true),(24,true),(34,true)] 100 rfl ?_ (AK.aA (i+1) rfl ?_ rfl rfl rfl ?_ rfl h k)
     ·simp only[aa,d,aB,show i3.bytes=8 from rfl];simp[g,m];omega
     ·rw[c];simp only[aa.cat,aa,d,bc,fa,kK,ai,ah];and_intros <;> first|exact ay.same|exact o n y|rfl|omega
     ·rw[c];simp only[aa.cat,aa,d,bc,fa,kK,ai,ah];and_intros <;> first|exact ay.same|exact o n y|rfl|omega
    ·rw[show fi n (a,false) y=(a++[y],false) by simp[fi,m]] at c
     refine aF [(12,true),(24,false),(34,true)] 100 rfl ?_ (AK.aA (i+1) rfl ?_ rfl rfl rfl ?_ rfl h k)
     ·simp only[aa,d,aB,show i3.bytes=8 from rfl];simp[g,m];omega
     ·rw[c];simp only[aa.cat,aa,d,bc,fw,ai,ah];and_intros <;> first|exact ay.same|exact j y|rfl|omega
     ·rw[c];simp only[aa.cat,aa,d,bc,fw,ai,ah];and_intros <;> first|exact ay.same|exact j y|rfl|omega
 ·obtain rfl:i=l.length:=by omega
  unfold j5;simp only[lx,cZ] at f ⊢;generalize l.foldl (fi n) ([],false)=a at *;obtain⟨a,b⟩:=a;have j:=cI.eU a n;refine aF [(12,false)] 100 rfl (by simp[aa]) (AK.leaveD rfl rfl ?_)
  cases b with
  |true=>exact bw rfl (by simp[aa]) (AK.au rfl (by simp[aa,ay.same]))
  |false =>
   refine bw rfl ?_ (AK.au rfl ?_)
   ·simp only[aa,show i3.bytes=8 from rfl];simp at f ⊢;omega
   ·simp only[aa,fO,aM,bc,fw];and_intros <;> first|exact j|trivial
abbrev y7:bH:=ga (aL cI) aI (λl n=>cI.sl (j5 l n)) λl _=>[l.length<=100000000]
theorem Fi:bU X 44 y7:=.gX λl n h=>Fh l n h
theorem gw(a:List Int):∀ l:List Int,(l.foldl j5 a).length<=a.length+l.length
 |[]=>by simp
 |x::l=>by
  have:=gw (j5 a x) l;have:=Fg a x;simp only[kO,fa];omega
theorem tq{b:Type}(f:b->Int->b)(a:b){l:List Int}{j:Nat}(h:j<l.length):(l.take (j+1)).foldl f a=f ((l.take j).foldl f a) (l.getD j 0):=by
 rw[bx h 0,nh];rfl
def ei(l:List cN):List Int:=(aZ l).foldl j5 []
theorem m7(l:List cN):(ei l).length<=(aZ l).length:=by
 have:=gw [] (aZ l)
 rwa [kK,aw] at this
set_option maxHeartbeats 4000000 in
theorem sr(s:cy)(t:s.2.length<=4000000)(r:(aZ s.2).length<=4000000):Ev X 43 [KF s] [] (cI.sl (ei s.2)) []:=by
 refine Ev.body Tryz.func43 rfl rfl rfl λq=>?_
 have b:aO X [(44,y7)]:=.cons Fi .nil;refine af b [] 100 rfl ab ?_;refine AK.bY 1 (λi=>i<=s.2.length) (λi:Nat=>[(1,.e (.one (.ptr 0 0))),(3,cI.sl (ei (s.2.take i))),(4,dI i)]) (λ_=>[OS s]) (λi=>s.2.length-i) 0 rfl (by simp[aa.cat,aa,ay.nil,ei,aZ]) rfl (by simp[aa.cat,aa,ay.same]) rfl (by omega) ?_
 intro i hi
 by_cases h:i<s.2.length
 ·have f:s.2.getD i cL.bD=s.2.getD i ([],[]):=rfl;have d:=nZ h;have m:=kB s.2 (i+1);have o:=m7 (s.2.take i);have n:ei (s.2.take (i+1))=(s.2.getD i ([],[])).2.foldl j5 (ei (s.2.take i)):=by simp only[ei,d,nh]
  rw[d,bc] at m;generalize s.2.getD i ([],[])=x at *;generalize ei (s.2.take i)=a at *;refine af b [(11,true)] 100 rfl (by simp[aa,h]) ?_
  refine AK.bY 1 (λj=>j<=x.2.length) (λj:Nat=>[(1,.e (.one (.ptr 0 0))),(3,cI.sl ((x.2.take j).foldl j5 a)),(4,dI i),(5,dI j)]) (λ_=>[OS s]) (λj=>x.2.length-j) 0 rfl (by simp[aa.cat,aa,ay.same]) rfl (by simp[aa.cat,aa,ay.same]) rfl (by omega) ?_
  intro j p
  by_cases g:j<x.2.length
  ·have c:x.2.getD j cI.bD=x.2.getD j 0:=rfl;have k:=tq j5 a g;have l:=gw a (x.2.take j);rw[List.length_take] at l;generalize (x.2.take j).foldl j5 a=a2 at *;have e:=cI.list_fn a2;refine af b [(22,true)] 100 rfl ?_ (AK.aA (j+1) rfl ?_ rfl rfl rfl ?_ rfl g (by omega))
   ·simp[-List.getD_eq_getElem?_getD,aa,f,c,h,g,e,cI.ae,aB];omega
   ·rw[k];simp[-List.getD_eq_getElem?_getD,aa.cat,aa,f,c,e,ay.same]
   ·simp[aa.cat,aa,ay.same]
  ·obtain rfl:j=x.2.length:=by omega
   rw[cZ,<-n];refine af b [(22,false)] 100 rfl ?_ (AK.leaveD rfl rfl ?_)
   ·simp[-List.getD_eq_getElem?_getD,aa,f,h]
   refine af b [] 100 rfl ?_ (AK.aA (i+1) rfl ?_ rfl rfl rfl ?_ rfl h (by omega))
   ·simp[aa,aB];omega
   ·simp[aa.cat,aa,ay.same]
   ·simp[aa.cat,aa,ay.same]
 ·obtain rfl:i=s.2.length:=by omega
  rw[cZ];refine af b [(11,false)] 100 rfl (by simp[aa]) (AK.leaveD rfl rfl ?_)
  exact af b [] 100 rfl ab (AK.au rfl (by simp[aa,ay.same]))
abbrev AN:bH:=fY (na cL) (λs=>cI.sl (ei s.2)) λs=>[s.2.length<=4000000,(aZ s.2).length<=4000000]
theorem H6:bU X 43 AN:=.jo λs h=>sr s h.1 h.2
def ix(l:List cy):List Int:=l.flatMap λx=>aZ x.2
def dZ(l:List cy):List Int:=l.foldl (λout x=>(ei x.2).foldl j5 out) []
theorem m8{l:List cy}{i:Nat}(h:i<l.length):ix (l.take (i+1))=ix (l.take i)++aZ (l.getD i (0,[])).2:=by
 rw[bx h (0,[])];simp[ix]
theorem w9(l:List cy)(i:Nat):(ix (l.take i)).length<=(ix l).length:=by
 have h:ix l=ix (l.take i)++ix (l.drop i):=by unfold ix;rw[<-pK,jT]
 rw[h,bc];omega
theorem rL{l:List cy}{i:Nat}(h:i<l.length):dZ (l.take (i+1))=(ei (l.getD i (0,[])).2).foldl j5 (dZ (l.take i)):=by
 unfold dZ;rw[bx h (0,[]),nh];rfl
theorem oJ(l:List cy):∀ i,i<=l.length->(dZ (l.take i)).length<=(ix (l.take i)).length
 |0,_=>by simp[dZ]
 |i+1,h=>by
  have b:=oJ l i (by omega)
  have a:=gw (dZ (l.take i)) (ei (l.getD i (0,[])).2);have c:=m7 (l.getD i (0,[])).2;rw[rL (by omega),m8 (by omega),bc]
  omega
set_option maxHeartbeats 4000000 in
theorem y8(s:cM)(g:rn s)(y:s.2.1.length<=4000000)(w:(ix s.2.1).length<=4000000):Ev X 26 [BN s] [] (cI.sl (dZ s.2.1)) []:=by
 refine Ev.body Tryz.func26 rfl rfl rfl λv=>?_
 have b:aO X [(44,y7),(43,AN)]:=.cons Fi (.cons H6 .nil);refine af b [] 100 rfl ab ?_;refine AK.bY 1 (λi=>i<=s.2.1.length) (λi:Nat=>[(1,.e (.one (.ptr 0 0))),(3,cI.sl (dZ (s.2.1.take i))),(4,dI i)]) (λ_=>[GG s]) (λi=>s.2.1.length-i) 0 rfl (by simp[aa.cat,aa,ay.nil,dZ]) rfl (by simp[aa.cat,aa,ay.same]) rfl (by omega) ?_
 intro i hi
 by_cases h:i<s.2.1.length
 ·have o:s.2.1.getD i cG.bD=s.2.1.getD i (0,[]):=rfl;have p:=g _ (cJ (d:=(0,[])) h);have n:=m8 h;have q:=w9 s.2.1 (i+1);have t:=oJ s.2.1 i hi;have g:=rL h;rw[n,bc] at q;generalize s.2.1.getD i (0,[])=x at *;have r:=m7 x.2;generalize dZ (s.2.1.take i)=a at *;refine af b [(12,true)] 100 rfl ?_ ?_
  ·simp[-List.getD_eq_getElem?_getD,aa,h,o,cL.list_fn,cL.ae];omega
  have f:s.2.1.getD (i:Int).toNat cG.bD=x:=by rw[az];exact o
  rw[f,cL.list_fn];refine AK.bY 1 (λj=>j<=(ei x.2).length) (λj:Nat=>[(1,.e (.one (.ptr 0 0))),(3,cI.sl (((ei x.2).take j).foldl j5 a)),(4,dI i),(5,cI.sl (ei x.2)),(6,dI j)]) (λ_=>[GG s]) (λj=>(ei x.2).length-j) 0 rfl (by simp[aa.cat,aa,ay.same]) rfl (by simp[aa.cat,aa,ay.same]) rfl (by omega) ?_
  intro j u;generalize ei x.2=ns at *
  by_cases k:j<ns.length
  ·have c:ns.getD j cI.bD=ns.getD j 0:=rfl;have l:=tq j5 a k;have m:=gw a (ns.take j);rw[List.length_take] at m;generalize (ns.take j).foldl j5 a=a2 at *;have e:=cI.list_fn a2;refine af b [(24,true)] 100 rfl ?_ (AK.aA (j+1) rfl ?_ rfl rfl rfl ?_ rfl k (by omega))
   ·simp[-List.getD_eq_getElem?_getD,aa,c,k,e,cI.ae,aB];omega
   ·rw[l];simp[-List.getD_eq_getElem?_getD,aa.cat,aa,c,e,ay.same]
   ·simp[aa.cat,aa,ay.same]
  ·obtain rfl:j=ns.length:=by omega
   rw[cZ,<-g];refine af b [(24,false)] 100 rfl (by simp[aa]) (AK.leaveD rfl rfl ?_)
   refine af b [] 100 rfl ?_ (AK.aA (i+1) rfl ?_ rfl rfl rfl ?_ rfl h (by omega))
   ·simp[aa,aB];omega
   ·simp[aa.cat,aa,ay.same]
   ·simp[aa.cat,aa,ay.same]
 ·obtain rfl:i=s.2.1.length:=by omega
  rw[cZ];refine af b [(12,false)] 100 rfl (by simp[aa]) (AK.leaveD rfl rfl ?_)
  exact af b [] 100 rfl ab (AK.au rfl (by simp[aa,ay.same]))
abbrev xa:bH:=fY Ay (λs=>cI.sl (dZ s.2.1)) λs=>[rn s,s.2.1.length<=4000000,(ix s.2.1).length<=4000000]
theorem Fj:bU X 26 xa:=.jo λs h=>y8 s h.1 h.2.1 h.2.2
abbrev fT:=cM×List Int×List Int
abbrev eL:=Int×fT×(Int×Int×Int×Bs)×List (Int×Int)×List Int
abbrev Sx:FA cM:=fP (fL cP) (fP (fL cG) (fL cH))
abbrev Fl:FA fT:=fP Sx (fP (fL cI) (fL cI))
abbrev pE:FA (Int×Int×Int×Bs):=fP fI (fP fI (fP fI fS))
abbrev GH:FA eL:=fP fI (fP Fl (fP pE (fP (fL cH) (fL cI))))
abbrev K8{α:Type}(c:jm α)(l:List α):A:=.c (.sl false c.k l.length (c.fn l))
abbrev QE(w:fT):List A:=[K8 cP w.1.1,K8 cG w.1.2.1,K8 cH w.1.2.2,K8 cI w.2.1,K8 cI w.2.2]
abbrev NY(w:fT):D:=.e (.agg (QE w))
abbrev QF(w:eL):List A:=.c (.int .i64 w.1)::(QE w.2.1++[.c (.int .i64 w.2.2.1.1),.c (.int .i64 w.2.2.1.2.1),.c (.int .i64 w.2.2.1.2.2.1),.c (.str w.2.2.1.2.2.2),K8 cH w.2.2.2.1,K8 cI w.2.2.2.2])
abbrev K9(w:eL):D:=.e (.agg (QF w))
structure NZ (s:cM):Prop where
 pN:s.1.length<=4000000
 sm:rn s
 sN:s.2.1.length<=4000000
 aN:(ix s.2.1).length<=4000000
def m9(ps:List aR)(l:List Int)(i:Nat):Bool:=(ps.any λp=>p.1==l.getD i 0)&&w6 (λx=>x) 0 l i
def gx(k:Int)(w:fT):Bool:=(dZ w.1.2.1).all (λn=>w.2.1.contains n)&&(List.range w.2.2.length).all (m9 w.1.1 w.2.2)&&gv k w.1
theorem Fo{l:List Int}{p:Int->Bool}:l.all p=(List.range l.length).all λi=>p (l.getD i 0):=by
 rw[lE,ba,List.all_eq_true]
 constructor
 ·exactλh i hi=>h _ (cJ hi)
 ·intro h x a;obtain⟨i,hi,rfl⟩:=jV.1 a;have:=h i hi
  rwa [List.getD_eq_getElem?_getD,aj hi] at this
theorem Fp{l:List aR}{p:aR->Bool}{j:Nat}(h:j<l.length):(l.take (j+1)).any p=((l.take j).any p||p (l.getD j (0,[]))):=by
 rw[bx h (0,[]),List.any_append];simp
abbrev N0(w:fT):ak:=.cells 43 (QE w)
set_option maxHeartbeats 4000000 in
theorem xb(k:Int)(w:fT)(m:NZ w.1):Ev X 15 [dI k,NY w] [] (dB (gx k w)) []:=by
 refine Ev.body Tryz.func15 rfl rfl rfl λE=>?_
 have c:aO X [(26,xa),(27,E8),(28,tp)]:=.cons Fj (.cons Jr (.cons B9 .nil));have D:=E.E6 1 rfl 4 rfl;have y:=oJ w.1.2.1 _ (ar _);rw[cZ] at y;have B:=m.aN;refine af c [] 100 rfl ?_ ?_
 ·simp[aa,cP.list_fn,cP.ae,cG.list_fn,cG.ae,cH.list_fn,cH.ae,m.sm,m.sN,m.aN]
 rw[cG.list_fn];unfold gx;rw[Fo];generalize dZ w.1.2.1=ms at *;refine AK.bY 1 (λi=>i<=ms.length/\∀ j,j<i->w.2.1.contains (ms.getD j 0)=true) (λi:Nat=>[(0,dI k),(3,.e (.one (.ptr 0 0))),(5,cI.sl ms),(6,dI i)]) (λ_=>[N0 w]) (λi=>ms.length-i) 0 rfl (by simp[aa.cat,aa,ay.same]) rfl (by simp[aa.cat,aa,ay.same]) rfl ⟨by omega,by omega⟩ ?_
 rintro i ⟨hi,a⟩
 by_cases h:i<ms.length
 ·have o:ms.getD i cI.bD=ms.getD i 0:=rfl;cases u:w.2.1.contains (ms.getD i 0) with
  |false =>
   refine af c [(16,true),(26,true)] 100 rfl ?_ (AK.cV (aW.zero rfl ?_))
   ·simp[-List.getD_eq_getElem?_getD,-List.contains_eq_mem,aa,o,h,u,cI.list_fn,cI.ae]
   ·rw[cw h u];simp[aa]
  |true =>
   refine af c [(16,true),(26,false)] 100 rfl ?_ (AK.aA (i+1) rfl (by simp[aa.cat,aa,ay.same]) rfl rfl rfl (by simp[aa.cat,aa,ay.same]) rfl ⟨h,dn a u⟩ (by omega))
   simp[-List.getD_eq_getElem?_getD,-List.contains_eq_mem,aa,o,h,u,cI.list_fn,cI.ae,aB];omega
 obtain rfl:i=ms.length:=by omega
 rw[ba.2 a,ck];refine af c [(16,false)] 100 rfl (by simp[aa]) (AK.leaveD rfl rfl ?_)
 refine af c [] 100 rfl ab ?_;refine AK.bY 1 (λi=>i<=w.2.2.length/\∀ j,j<i->m9 w.1.1 w.2.2 j=true) (λi:Nat=>[(0,dI k),(3,.e (.one (.ptr 0 0))),(7,dI i)]) (λ_=>[N0 w]) (λi=>w.2.2.length-i) 0 rfl (by simp[aa.cat,aa]) rfl (by simp[aa.cat,aa,ay.same]) rfl ⟨by omega,by omega⟩ ?_
 rintro i ⟨hi,a⟩
 by_cases h:i<w.2.2.length
 ·have o:w.2.2.getD i cI.bD=w.2.2.getD i 0:=rfl;have t:w.2.2.getD (i-1) cI.bD=w.2.2.getD (i-1) 0:=rfl;have g:m9 w.1.1 w.2.2 i=((w.1.1.any λp=>p.1==w.2.2.getD i 0)&&w6 (λx=>x) 0 w.2.2 i):=rfl
  have s:=mx (f:=λx:Int=>x) (d:=0) (l:=w.2.2) (i:=i)
  generalize w.2.2.getD i 0=n at *;generalize w.2.2.getD (i-1) 0=n' at *;refine af c [(31,true)] 100 rfl (by simp[aa,h]) ?_
  refine AK.bY 1 (λj=>j<=w.1.1.length) (λj:Nat=>[(0,dI k),(3,.e (.one (.ptr 0 0))),(7,dI i),(8,dB ((w.1.1.take j).any λp=>p.1==n)),(9,dI j)]) (λ_=>[N0 w]) (λj=>w.1.1.length-j) 0 rfl (by simp[aa.cat,aa]) rfl (by simp[aa.cat,aa,ay.same]) rfl (by omega) ?_
  intro j F
  by_cases r:j<w.1.1.length
  ·have G:=m.pN;have C:w.1.1.getD j cP.bD=w.1.1.getD j (0,[]):=rfl;have q:=Fp (p:=λp=>p.1==n) r
   generalize w.1.1.getD j (0,[])=p at *;generalize (w.1.1.take j).any (λp=>p.1==n)=b at *
   cases b with
   |true =>
    refine af c [(39,true)] 100 rfl ?_ (AK.aA (j+1) rfl ?_ rfl rfl rfl ?_ rfl r (by omega))
    ·simp[aa,r,aB];omega
    ·rw[q];simp[aa.cat,aa]
    ·simp[aa.cat,aa,ay.same]
   |false =>
    refine af c [(39,true)] 100 rfl ?_ (AK.aA (j+1) rfl ?_ rfl rfl rfl ?_ rfl r (by omega))
    ·simp[-List.getD_eq_getElem?_getD,aa,h,r,aB];omega
    ·rw[q];simp[-List.getD_eq_getElem?_getD,aa.cat,aa,C,o]
    ·simp[aa.cat,aa,ay.same]
  obtain rfl:j=w.1.1.length:=by omega
  rw[cZ];refine af c [(39,false)] 100 rfl (by simp[aa]) (AK.leaveD rfl rfl ?_)
  cases A:w.1.1.any (λp=>p.1==n) with
  |false =>
   rw[A,kP] at g;refine af c [(77,true)] 100 rfl (by simp[aa]) (AK.cV (aW.zero rfl ?_))
   rw[cw h g];simp[aa]
  |true =>
   rw[A,ck] at g
   by_cases v:i=0
   ·subst v;refine af c [(63,false),(77,false)] 100 rfl ?_ (AK.aA 1 rfl (by simp[aa.cat,aa]) rfl rfl rfl (by simp[aa.cat,aa,ay.same]) rfl ⟨h,dn a (by rw[g];rfl)⟩ (by omega))
    simp[aa,aB]
   by_cases z:n'<n
   ·refine af c [(63,true),(75,false),(77,false)] 100 rfl ?_ (AK.aA (i+1) rfl (by simp[aa.cat,aa]) rfl rfl rfl (by simp[aa.cat,aa,ay.same]) rfl ⟨h,dn a (by rw[g,s v];exact aQ z)⟩ (by omega))
    simp[-List.getD_eq_getElem?_getD,aa,o,t,h,aB];omega
   ·refine af c [(63,true),(75,true),(77,true)] 100 rfl ?_ (AK.cV (aW.zero rfl ?_))
    ·simp[-List.getD_eq_getElem?_getD,aa,o,t,h,aB];omega
    ·rw[cw h (by rw[g,s v];exact bV z)];simp[aa]
 obtain rfl:i=w.2.2.length:=by omega
 rw[ba.2 a,ck];refine af c [(31,false)] 100 rfl (by simp[aa]) (AK.leaveD rfl rfl ?_)
 refine af c [] 100 rfl ?_ (AK.au rfl ?_)
 ·simp[aa,cP.list_fn,cP.ae,cG.list_fn,cG.ae,cH.list_fn,cH.ae,m.sm,m.sN,m.pN]
 ·simp[aa,cP.list_fn,cG.list_fn,cH.list_fn]
abbrev tr:bH:=ga aI (ln Fl) (λk w=>dB (gx k w)) λ_ w=>[NZ w.1]
theorem Ca:bU X 15 tr:=.gX λk w h=>xb k w h
abbrev GI:FA cN:=fP fS (fL cI)
abbrev xR{ks:List Nat}:∀ j,j<([]:List ak).length->ks[j]?=some j:=λj a=>absurd a (by simp)
theorem jl{α:Type}{c:jm α}{l:List α}{i:Nat}{es:Nat->List C}{d:α}(b:c.bD=d)(h:∀ j,j<i->es j=c.fn l j):∀ j,j<i+1->fX i (c.enc (l.getD i d)) es j=c.fn l j:=λj a=>by
 unfold fX;rcases dG.1 a with a|rfl
 ·rw[an (by omega)];exact h j a
 ·rw[aq rfl,<-b];rfl
theorem CJ(a:List (Int))(g:a.length<=4000000):Ev X 19 [cI.sl a] [] (cI.sl a) []:=by
 have key:Ev X 19 [cI.sl a] [] (.e (.one (.bp 0 (.sl a.length 1 0 a.length)))) ([]++[.buf 3 1 a.length (cI.fn a)]):=by
  refine Ev.body Tryz.func19 rfl rfl rfl λf=>?_
  have c:aO X []:=.nil;refine af c [] 100 rfl ab ?_;refine AK.qS tok (n:=a.length) rfl rfl rfl rfl rfl rfl (by show _*i3.bytes<=_;simp only[show i3.bytes=8 from rfl];omega) (by omega) rfl rfl ?_
  refine af c [] 100 rfl ab ?_;refine AK.bY 1 (λs:Nat×(Nat->List C)=>s.1<=a.length/\∀ j,j<s.1->s.2 j=cI.fn a j) (λs=>[(0,cI.sl a),(3,.e (.one (.bp 0 (.sl a.length 1 0 a.length)))),(4,dI s.1)]) (λs=>[.buf 3 1 a.length s.2]) (λs=>a.length-s.1) (0,λ_=>i3.zero) rfl (by simp[aa.cat,aa,ay.same];rfl) rfl (by simp[aa.cat,aa,ay.same]) rfl ⟨by simp,by simp⟩ ?_
  rintro⟨i,es⟩ ⟨hi,b⟩;simp only at hi b
  by_cases h:i<a.length
  ·have d:a.getD (i:Int).toNat cI.bD=a.getD i 0:=by rw[az];rfl
   refine af c [(11,true)] 100 rfl ?_ (AK.aA (i+1,fX i (cI.enc (a.getD i 0)) es) rfl ?_ rfl rfl rfl ?_ rfl ⟨h,jl rfl b⟩ (by simp only;omega))
   ·simp only[aa,d,aB];simp only[ai,ah,aD];and_intros <;> first|omega|exact hx|exact hx.1|exact hx.2
   ·simp[aa.cat,aa,ay.same]
   ·simp only[aa.cat,aa,d,ah,ai,aw,az];exactλ_ _=>rfl
  obtain rfl:i=a.length:=by omega
  refine af c [(11,false)] 100 rfl (by simp[aa]) (AK.leaveD rfl rfl ?_)
  refine AK.wu (φ':=[(3,.e (.one (.bp 0 (.sl a.length 1 0 a.length))))]) (σ':=[.buf 3 1 a.length (cI.fn a)]) ?_ rfl (by simp[aa.cat,aa]) rfl (by simp only[aa.cat,aa,ah,ai];exact b)
  exact af c [] 100 rfl ab (AK.eK [0] rfl (by simp[aa]) rfl rfl rfl xR)
 exact key.lW (by rfl) (by simp[aa,ay.same]) rfl (ar _)
abbrev qk:bH:=fY (aL cI) (λa=>cI.sl a) λa=>[a.length<=4000000]
theorem vE:bU X 19 qk:=.jo λa h=>CJ a h
theorem CK(x:ew):Ev X 111 [yJ.enc x] [] (yJ.enc x) []:=by
 refine Ev.ko Tryz.func111 rfl rfl rfl λb=>?_
 have a:aO X []:=.nil;refine af a [] 100 rfl ?_ (AK.freeze 2 1 rfl rfl rfl (AK.pq tok [] rfl ?_ rfl rfl rfl xR))
 ·trivial
 ·simp[aa,aa.cat,ay.same]
abbrev A1:bH:=fY yJ (λx=>yJ.enc x) λx=>[]
theorem IB:bU X 111 A1:=.jo λx h=>CK x
theorem zG(a:List (ew))(g:a.length<=4000000):Ev X 89 [cK.sl a] [] (cK.sl a) []:=by
 have key:Ev X 89 [cK.sl a] [] (.e (.one (.bp 0 (.sl a.length 2 0 a.length)))) ([]++[.buf 98 2 a.length (cK.fn a)]):=by
  refine Ev.body Tryz.func89 rfl rfl rfl λf=>?_
  have c:aO X [(111,A1)]:=.cons IB .nil;refine af c [] 100 rfl ab ?_;refine AK.qS tok (n:=a.length) rfl rfl rfl rfl rfl rfl (by show _*i98.bytes<=_;simp only[show i98.bytes=24 from rfl];omega) (by omega) rfl rfl ?_
  refine af c [] 100 rfl ab ?_;refine AK.bY 1 (λs:Nat×(Nat->List C)=>s.1<=a.length/\∀ j,j<s.1->s.2 j=cK.fn a j) (λs=>[(0,cK.sl a),(3,.e (.one (.bp 0 (.sl a.length 2 0 a.length)))),(4,dI s.1)]) (λs=>[.buf 98 2 a.length s.2]) (λs=>a.length-s.1) (0,λ_=>i98.zero) rfl (by simp[aa.cat,aa,ay.same];rfl) rfl (by simp[aa.cat,aa,ay.same]) rfl ⟨by simp,by simp⟩ ?_
  rintro⟨i,es⟩ ⟨hi,b⟩;simp only at hi b
  by_cases h:i<a.length
  ·have d:a.getD (i:Int).toNat cK.bD=a.getD i (0,[]):=by rw[az];rfl
   refine af c [(11,true)] 100 rfl ?_ (AK.aA (i+1,fX i (cK.enc (a.getD i (0,[]))) es) rfl ?_ rfl rfl rfl ?_ rfl ⟨h,jl rfl b⟩ (by simp only;omega))
   ·simp only[aa,d,aB];simp only[ai,ah,aD];and_intros <;> first|omega|exact hx|exact hx.1|exact hx.2
   ·simp[aa.cat,aa,ay.same]
   ·simp only[aa.cat,aa,d,ah,ai,aw,az];exactλ_ _=>rfl
  obtain rfl:i=a.length:=by omega
  refine af c [(11,false)] 100 rfl (by simp[aa]) (AK.leaveD rfl rfl ?_)
  refine AK.wu (φ':=[(3,.e (.one (.bp 0 (.sl a.length 2 0 a.length))))]) (σ':=[.buf 98 2 a.length (cK.fn a)]) ?_ rfl (by simp[aa.cat,aa]) rfl (by simp only[aa.cat,aa,ah,ai];exact b)
  exact af c [] 100 rfl ab (AK.eK [0] rfl (by simp[aa]) rfl rfl rfl xR)
 exact key.lW (by rfl) (by simp[aa,ay.same]) rfl (ar _)
abbrev xV:bH:=fY (aL cK) (λa=>cK.sl a) λa=>[a.length<=4000000]
theorem Gs:bU X 89 xV:=.jo λa h=>zG a h
theorem CL(x:aR)(h:x.2.length<=4000000):Ev X 68 [(na cK).enc x] [] ((na cK).enc x) []:=by
 refine Ev.ko Tryz.func68 rfl rfl rfl λb=>?_
 have a:aO X [(89,xV)]:=.cons Gs (.nil);refine af a [] 100 rfl ?_ (AK.freeze 2 1 rfl rfl rfl (AK.pq tok [] rfl ?_ rfl rfl rfl xR))
 ·simp only[aa,aa.cat,cK.list_fn,cK.ae,ai,ah];exact h
 ·simp[aa,aa.cat,ay.same,cK.list_fn]
abbrev A2:bH:=fY (na cK) (λx=>(na cK).enc x) λx=>[x.2.length<=4000000]
theorem IC:bU X 68 A2:=.jo λx h=>CL x h
theorem zH(a:List (aR))(m:a.length<=4000000)(k:∀ x∈a,x.2.length<=4000000):Ev X 49 [cP.sl a] [] (cP.sl a) []:=by
 have key:Ev X 49 [cP.sl a] [] (.e (.one (.bp 0 (.sl a.length 2 0 a.length)))) ([]++[.buf 73 2 a.length (cP.fn a)]):=by
  refine Ev.body Tryz.func49 rfl rfl rfl λl=>?_
  have c:aO X [(68,A2)]:=.cons IC .nil;refine af c [] 100 rfl ab ?_;refine AK.qS tok (n:=a.length) rfl rfl rfl rfl rfl rfl (by show _*i73.bytes<=_;simp only[show i73.bytes=32 from rfl];omega) (by omega) rfl rfl ?_
  refine af c [] 100 rfl ab ?_;refine AK.bY 1 (λs:Nat×(Nat->List C)=>s.1<=a.length/\∀ j,j<s.1->s.2 j=cP.fn a j) (λs=>[(0,cP.sl a),(3,.e (.one (.bp 0 (.sl a.length 2 0 a.length)))),(4,dI s.1)]) (λs=>[.buf 73 2 a.length s.2]) (λs=>a.length-s.1) (0,λ_=>i73.zero) rfl (by simp[aa.cat,aa,ay.same];rfl) rfl (by simp[aa.cat,aa,ay.same]) rfl ⟨by simp,by simp⟩ ?_
  rintro⟨i,es⟩ ⟨hi,b⟩;simp only at hi b
  by_cases h:i<a.length
  ·have g:a.getD (i:Int).toNat cP.bD=a.getD i (0,[]):=by rw[az];rfl
   have f:=k _ (cJ (d:=(0,[])) h);refine af c [(11,true)] 100 rfl ?_ (AK.aA (i+1,fX i (cP.enc (a.getD i (0,[]))) es) rfl ?_ rfl rfl rfl ?_ rfl ⟨h,jl rfl b⟩ (by simp only;omega))
   ·simp only[aa,g,aB,cK.list_fn,cK.ae];simp only[ai,ah,aD];and_intros <;> first|omega|exact f|exact f.1|exact f.2
   ·simp[aa.cat,aa,ay.same]
   ·simp only[aa.cat,aa,g,cK.list_fn,ah,ai,aw,az];exactλ_ _=>rfl
  obtain rfl:i=a.length:=by omega
  refine af c [(11,false)] 100 rfl (by simp[aa]) (AK.leaveD rfl rfl ?_)
  refine AK.wu (φ':=[(3,.e (.one (.bp 0 (.sl a.length 2 0 a.length))))]) (σ':=[.buf 73 2 a.length (cP.fn a)]) ?_ rfl (by simp[aa.cat,aa]) rfl (by simp only[aa.cat,aa,ah,ai];exact b)
  exact af c [] 100 rfl ab (AK.eK [0] rfl (by simp[aa]) rfl rfl rfl xR)
 exact key.lW (by rfl) (by simp[aa,ay.same]) rfl (ar _)
abbrev xO:bH:=fY (aL cP) (λa=>cP.sl a) λa=>[a.length<=4000000,∀ x∈a,x.2.length<=4000000]
theorem Gj:bU X 49 xO:=.jo λa h=>zH a h.1 h.2
theorem xX(x:cN)(h:x.2.length<=4000000):Ev X 112 [(ln GI).enc x] [] ((ln GI).enc x) []:=by
 refine Ev.ko Tryz.func112 rfl rfl rfl λb=>?_
 have a:aO X [(19,qk)]:=.cons vE (.nil);refine af a [] 100 rfl ?_ (AK.freeze 2 1 rfl rfl rfl (AK.pq tok [] rfl ?_ rfl rfl rfl xR))
 ·simp only[aa,aa.cat,cI.list_fn,cI.ae,ai,ah];exact h
 ·simp[aa,aa.cat,ay.same,cI.list_fn]
abbrev tN:bH:=fY (ln GI) (λx=>(ln GI).enc x) λx=>[x.2.length<=4000000]
theorem CM:bU X 112 tN:=.jo λx h=>xX x h
theorem vF(a:List (cN))(m:a.length<=4000000)(k:∀ x∈a,x.2.length<=4000000):Ev X 90 [cL.sl a] [] (cL.sl a) []:=by
 have key:Ev X 90 [cL.sl a] [] (.e (.one (.bp 0 (.sl a.length 2 0 a.length)))) ([]++[.buf 122 2 a.length (cL.fn a)]):=by
  refine Ev.body Tryz.func90 rfl rfl rfl λl=>?_
  have c:aO X [(112,tN)]:=.cons CM .nil;refine af c [] 100 rfl ab ?_;refine AK.qS tok (n:=a.length) rfl rfl rfl rfl rfl rfl (by show _*i122.bytes<=_;simp only[show i122.bytes=40 from rfl];omega) (by omega) rfl rfl ?_
  refine af c [] 100 rfl ab ?_;refine AK.bY 1 (λs:Nat×(Nat->List C)=>s.1<=a.length/\∀ j,j<s.1->s.2 j=cL.fn a j) (λs=>[(0,cL.sl a),(3,.e (.one (.bp 0 (.sl a.length 2 0 a.length)))),(4,dI s.1)]) (λs=>[.buf 122 2 a.length s.2]) (λs=>a.length-s.1) (0,λ_=>i122.zero) rfl (by simp[aa.cat,aa,ay.same];rfl) rfl (by simp[aa.cat,aa,ay.same]) rfl ⟨by simp,by simp⟩ ?_
  rintro⟨i,es⟩ ⟨hi,b⟩;simp only at hi b
  by_cases h:i<a.length
  ·have g:a.getD (i:Int).toNat cL.bD=a.getD i ([],[]):=by rw[az];rfl
   have f:=k _ (cJ (d:=([],[])) h);refine af c [(11,true)] 100 rfl ?_ (AK.aA (i+1,fX i (cL.enc (a.getD i ([],[]))) es) rfl ?_ rfl rfl rfl ?_ rfl ⟨h,jl rfl b⟩ (by simp only;omega))
   ·simp only[aa,g,aB,cI.list_fn,cI.ae];simp only[ai,ah,aD];and_intros <;> first|omega|exact f|exact f.1|exact f.2
   ·simp[aa.cat,aa,ay.same]
   ·simp only[aa.cat,aa,g,cI.list_fn,ah,ai,aw,az];exactλ_ _=>rfl
  obtain rfl:i=a.length:=by omega
  refine af c [(11,false)] 100 rfl (by simp[aa]) (AK.leaveD rfl rfl ?_)
  refine AK.wu (φ':=[(3,.e (.one (.bp 0 (.sl a.length 2 0 a.length))))]) (σ':=[.buf 122 2 a.length (cL.fn a)]) ?_ rfl (by simp[aa.cat,aa]) rfl (by simp only[aa.cat,aa,ah,ai];exact b)
  exact af c [] 100 rfl ab (AK.eK [0] rfl (by simp[aa]) rfl rfl rfl xR)
 exact key.lW (by rfl) (by simp[aa,ay.same]) rfl (ar _)
abbrev rZ:bH:=fY (aL cL) (λa=>cL.sl a) λa=>[a.length<=4000000,∀ x∈a,x.2.length<=4000000]
theorem zI:bU X 90 rZ:=.jo λa h=>vF a h.1 h.2
theorem CN(x:cy)(h:x.2.length<=4000000/\(∀ y∈x.2,y.2.length<=4000000)):Ev X 69 [(na cL).enc x] [] ((na cL).enc x) []:=by
 refine Ev.ko Tryz.func69 rfl rfl rfl λb=>?_
 have a:aO X [(90,rZ)]:=.cons zI (.nil);refine af a [] 100 rfl ?_ (AK.freeze 2 1 rfl rfl rfl (AK.pq tok [] rfl ?_ rfl rfl rfl xR))
 ·simp only[aa,aa.cat,cL.list_fn,cL.ae,ai,ah];exact h
 ·simp[aa,aa.cat,ay.same,cL.list_fn]
abbrev A3:bH:=fY (na cL) (λx=>(na cL).enc x) λx=>[x.2.length<=4000000,∀ y∈x.2,y.2.length<=4000000]
theorem ID:bU X 69 A3:=.jo λx h=>CN x h
theorem zJ(a:List (cy))(m:a.length<=4000000)(k:∀ x∈a,x.2.length<=4000000/\∀ y∈x.2,y.2.length<=4000000):Ev X 50 [cG.sl a] [] (cG.sl a) []:=by
 have key:Ev X 50 [cG.sl a] [] (.e (.one (.bp 0 (.sl a.length 2 0 a.length)))) ([]++[.buf 83 2 a.length (cG.fn a)]):=by
  refine Ev.body Tryz.func50 rfl rfl rfl λl=>?_
  have c:aO X [(69,A3)]:=.cons ID .nil;refine af c [] 100 rfl ab ?_;refine AK.qS tok (n:=a.length) rfl rfl rfl rfl rfl rfl (by show _*i83.bytes<=_;simp only[show i83.bytes=32 from rfl];omega) (by omega) rfl rfl ?_
  refine af c [] 100 rfl ab ?_;refine AK.bY 1 (λs:Nat×(Nat->List C)=>s.1<=a.length/\∀ j,j<s.1->s.2 j=cG.fn a j) (λs=>[(0,cG.sl a),(3,.e (.one (.bp 0 (.sl a.length 2 0 a.length)))),(4,dI s.1)]) (λs=>[.buf 83 2 a.length s.2]) (λs=>a.length-s.1) (0,λ_=>i83.zero) rfl (by simp[aa.cat,aa,ay.same];rfl) rfl (by simp[aa.cat,aa,ay.same]) rfl ⟨by simp,by simp⟩ ?_
  rintro⟨i,es⟩ ⟨hi,b⟩;simp only at hi b
  by_cases h:i<a.length
  ·have g:a.getD (i:Int).toNat cG.bD=a.getD i (0,[]):=by rw[az];rfl
   have f:=k _ (cJ (d:=(0,[])) h);refine af c [(11,true)] 100 rfl ?_ (AK.aA (i+1,fX i (cG.enc (a.getD i (0,[]))) es) rfl ?_ rfl rfl rfl ?_ rfl ⟨h,jl rfl b⟩ (by simp only;omega))
   ·simp only[aa,g,aB,cL.list_fn,cL.ae];simp only[ai,ah,aD];and_intros <;> first|omega|exact f|exact f.1|exact f.2
   ·simp[aa.cat,aa,ay.same]
   ·simp only[aa.cat,aa,g,cL.list_fn,ah,ai,aw,az];exactλ_ _=>rfl
  obtain rfl:i=a.length:=by omega
  refine af c [(11,false)] 100 rfl (by simp[aa]) (AK.leaveD rfl rfl ?_)
  refine AK.wu (φ':=[(3,.e (.one (.bp 0 (.sl a.length 2 0 a.length))))]) (σ':=[.buf 83 2 a.length (cG.fn a)]) ?_ rfl (by simp[aa.cat,aa]) rfl (by simp only[aa.cat,aa,ah,ai];exact b)
  exact af c [] 100 rfl ab (AK.eK [0] rfl (by simp[aa]) rfl rfl rfl xR)
 exact key.lW (by rfl) (by simp[aa,ay.same]) rfl (ar _)
abbrev xP:bH:=fY (aL cG) (λa=>cG.sl a) λa=>[a.length<=4000000,∀ x∈a,x.2.length<=4000000/\∀ y∈x.2,y.2.length<=4000000]
theorem Gk:bU X 50 xP:=.jo λa h=>zJ a h.1 h.2
theorem CO(x:gu):Ev X 70 [tf.enc x] [] (tf.enc x) []:=by
 refine Ev.ko Tryz.func70 rfl rfl rfl λb=>?_
 have a:aO X []:=.nil;refine af a [] 100 rfl ?_ (AK.freeze 2 1 rfl rfl rfl (AK.pq tok [] rfl ?_ rfl rfl rfl xR))
 ·trivial
 ·simp[aa,aa.cat,ay.same]
abbrev A4:bH:=fY tf (λx=>tf.enc x) λx=>[]
theorem IE:bU X 70 A4:=.jo λx h=>CO x
theorem zK(a:List (gu))(g:a.length<=4000000):Ev X 51 [cH.sl a] [] (cH.sl a) []:=by
 have key:Ev X 51 [cH.sl a] [] (.e (.one (.bp 0 (.sl a.length 2 0 a.length)))) ([]++[.buf 129 2 a.length (cH.fn a)]):=by
  refine Ev.body Tryz.func51 rfl rfl rfl λf=>?_
  have c:aO X [(70,A4)]:=.cons IE .nil;refine af c [] 100 rfl ab ?_;refine AK.qS tok (n:=a.length) rfl rfl rfl rfl rfl rfl (by show _*i129.bytes<=_;simp only[show i129.bytes=16 from rfl];omega) (by omega) rfl rfl ?_
  refine af c [] 100 rfl ab ?_;refine AK.bY 1 (λs:Nat×(Nat->List C)=>s.1<=a.length/\∀ j,j<s.1->s.2 j=cH.fn a j) (λs=>[(0,cH.sl a),(3,.e (.one (.bp 0 (.sl a.length 2 0 a.length)))),(4,dI s.1)]) (λs=>[.buf 129 2 a.length s.2]) (λs=>a.length-s.1) (0,λ_=>i129.zero) rfl (by simp[aa.cat,aa,ay.same];rfl) rfl (by simp[aa.cat,aa,ay.same]) rfl ⟨by simp,by simp⟩ ?_
  rintro⟨i,es⟩ ⟨hi,b⟩;simp only at hi b
  by_cases h:i<a.length
  ·have d:a.getD (i:Int).toNat cH.bD=a.getD i (0,0):=by rw[az];rfl
   refine af c [(11,true)] 100 rfl ?_ (AK.aA (i+1,fX i (cH.enc (a.getD i (0,0))) es) rfl ?_ rfl rfl rfl ?_ rfl ⟨h,jl rfl b⟩ (by simp only;omega))
   ·simp only[aa,d,aB];simp only[ai,ah,aD];and_intros <;> first|omega|exact hx|exact hx.1|exact hx.2
   ·simp[aa.cat,aa,ay.same]
   ·simp only[aa.cat,aa,d,ah,ai,aw,az];exactλ_ _=>rfl
  obtain rfl:i=a.length:=by omega
  refine af c [(11,false)] 100 rfl (by simp[aa]) (AK.leaveD rfl rfl ?_)
  refine AK.wu (φ':=[(3,.e (.one (.bp 0 (.sl a.length 2 0 a.length))))]) (σ':=[.buf 129 2 a.length (cH.fn a)]) ?_ rfl (by simp[aa.cat,aa]) rfl (by simp only[aa.cat,aa,ah,ai];exact b)
  exact af c [] 100 rfl ab (AK.eK [0] rfl (by simp[aa]) rfl rfl rfl xR)
 exact key.lW (by rfl) (by simp[aa,ay.same]) rfl (ar _)
abbrev xQ:bH:=fY (aL cH) (λa=>cH.sl a) λa=>[a.length<=4000000]
theorem Gl:bU X 51 xQ:=.jo λa h=>zK a h
theorem xY(x:gu):Ev X 30 [tf.enc x] [] (tf.enc x) []:=by
 refine Ev.ko Tryz.func30 rfl rfl rfl λb=>?_
 have a:aO X []:=.nil;refine af a [] 100 rfl ?_ (AK.freeze 2 1 rfl rfl rfl (AK.pq tok [] rfl ?_ rfl rfl rfl xR))
 ·trivial
 ·simp[aa,aa.cat,ay.same]
abbrev tO:bH:=fY tf (λx=>tf.enc x) λx=>[]
theorem CP:bU X 30 tO:=.jo λx h=>xY x
theorem vG(a:List (gu))(g:a.length<=4000000):Ev X 18 [cH.sl a] [] (cH.sl a) []:=by
 have key:Ev X 18 [cH.sl a] [] (.e (.one (.bp 0 (.sl a.length 2 0 a.length)))) ([]++[.buf 57 2 a.length (cH.fn a)]):=by
  refine Ev.body Tryz.func18 rfl rfl rfl λf=>?_
  have c:aO X [(30,tO)]:=.cons CP .nil;refine af c [] 100 rfl ab ?_;refine AK.qS tok (n:=a.length) rfl rfl rfl rfl rfl rfl (by show _*i57.bytes<=_;simp only[show i57.bytes=16 from rfl];omega) (by omega) rfl rfl ?_
  refine af c [] 100 rfl ab ?_;refine AK.bY 1 (λs:Nat×(Nat->List C)=>s.1<=a.length/\∀ j,j<s.1->s.2 j=cH.fn a j) (λs=>[(0,cH.sl a),(3,.e (.one (.bp 0 (.sl a.length 2 0 a.length)))),(4,dI s.1)]) (λs=>[.buf 57 2 a.length s.2]) (λs=>a.length-s.1) (0,λ_=>i57.zero) rfl (by simp[aa.cat,aa,ay.same];rfl) rfl (by simp[aa.cat,aa,ay.same]) rfl ⟨by simp,by simp⟩ ?_
  rintro⟨i,es⟩ ⟨hi,b⟩;simp only at hi b
  by_cases h:i<a.length
  ·have d:a.getD (i:Int).toNat cH.bD=a.getD i (0,0):=by rw[az];rfl
   refine af c [(11,true)] 100 rfl ?_ (AK.aA (i+1,fX i (cH.enc (a.getD i (0,0))) es) rfl ?_ rfl rfl rfl ?_ rfl ⟨h,jl rfl b⟩ (by simp only;omega))
   ·simp only[aa,d,aB];simp only[ai,ah,aD];and_intros <;> first|omega|exact hx|exact hx.1|exact hx.2
   ·simp[aa.cat,aa,ay.same]
   ·simp only[aa.cat,aa,d,ah,ai,aw,az];exactλ_ _=>rfl
  obtain rfl:i=a.length:=by omega
  refine af c [(11,false)] 100 rfl (by simp[aa]) (AK.leaveD rfl rfl ?_)
  refine AK.wu (φ':=[(3,.e (.one (.bp 0 (.sl a.length 2 0 a.length))))]) (σ':=[.buf 57 2 a.length (cH.fn a)]) ?_ rfl (by simp[aa.cat,aa]) rfl (by simp only[aa.cat,aa,ah,ai];exact b)
  exact af c [] 100 rfl ab (AK.eK [0] rfl (by simp[aa]) rfl rfl rfl xR)
 exact key.lW (by rfl) (by simp[aa,ay.same]) rfl (ar _)
abbrev rY:bH:=fY (aL cH) (λa=>cH.sl a) λa=>[a.length<=4000000]
theorem zF:bU X 18 rY:=.jo λa h=>vG a h
end Go.AM.R1
