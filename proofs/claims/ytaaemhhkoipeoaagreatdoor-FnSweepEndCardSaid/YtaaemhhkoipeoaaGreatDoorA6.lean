/- Part 6. No condition. -/
import Derived.Test.YtaaemhhkoipeoaaGreatDoorA5
import Derived.Maps.RangeRun
set_option linter.all false
set_option maxHeartbeats 8000000
open Go.Proofs
open Go renaming Value → aj, TypeId → av, Frame → aU, Operand → aE, World → aA, Program → aK, Oper → aD, Goroutine → ak
open Option renaming some → aa, none → af
open Bool renaming true → ab, false → ae
open List renaming getD_eq_getElem?_getD → ah, range → bg
open Go.Proofs.Tryz renaming prog → ag
namespace Go.AM
variable {n k l b i j:Nat}{E:av}{L:Array Bool}{M:Mem}{N:Nat}{P:aK}{S:ak->St->Prop}{c:Code}{g:ak}{o:aD}{s:St}{t:av}{v:aj}{w:aA}{x y:aE}{α:Type}{η:aE->D}{ι:Type}{σ:List bm}{φ:Fr}{all:List aD}{jN:Array av}{cap:List C}{cy:List D}{cs:List aU}{ds:List (Nat×Bool)}{es:Nat->List C}{fo:aE}{gs:Array ak}{obs:List Prop}{off:Nat}{op:BinOp}{ops:Array aD}{ps:List Prop}{rest:List aD}{s':St}{tx:Bool}{ty:av}{val:Nat->Nat->aj}{vs:List aj}{w':aA}{xs:Array aE}{σ' σs:List bm}{res:ι->D}{σ1:ι->List bm}
variable {CT:List (Nat×dv)}{K:List It}{Qf:Post}{T:List (Nat×TI)}{ie:TI}
namespace R1
structure Uc(w:br):Prop extends Pc w.1 where
 W7:w.2.1.length<=4000000
 R9:w.2.2.length<=4000000
def HL{l:List cW}(h:i<l.length):(cd (l.getD i (0,[])).2).length<=(ji l).length:=by have:=CE l (i+1);grind[qY]
def xX(k:Int)(w:br):dz k w=(fJ k w.1&&(bg w.1.2.1.length).all (λi=>!(gY (w.1.2.1.getD i (0,[]))).any λn=>!w.2.1.contains n)&&(bg w.2.2.length).all (lT w.1.1 w.2.2)):=by rw[dz,HM];cases fJ k w.1<;>simp
def CL(k:Int)(w:br)(q:Uc w):Ev (Cx.beside ag) 21 [dI k,nu w] [] (dB (dz k w)) []:=by
 refine Ev.bQ Tryz.func21 rfl λM=>?_;have b:bR (Cx.beside ag) [(19,tu)]:=.cons yL .nil;have z:=cP.list_fn w.1.1;have y:=cX.list_fn w.1.2.1;have A:=cH.list_fn w.1.2.2;have r:=q.toPc;rw[xX];cases v:fJ k w.1
 .exact AK.fa fC kS b [(14,ab)] 100 rfl (by simp[v,z,y,A,cP.au,cX.au,cH.au,r]) (AK.bq rfl)
 refine AK.fa fC kS b [(14,ae)] 100 rfl (by simp[v,z,y,A,cP.au,cX.au,cH.au,r]) ?_;rw[eL];refine AK.Rb rfl rfl rfl λm=>?_;refine AK.fa fC kS b [] 100 rfl aq ?_;refine AK.cQ (Rj m [] w.2.1) [1] rfl ?_;rw[List.nil_append];refine AK.fa fC kS b [(1000005,ab)] 100 rfl aq ?_;refine AK.freeze 5 2 rfl rfl rfl ?_;refine AK.fa fC kS b [] 100 rfl aq ?_;refine AK.bS 3 (λi=>i<=w.1.2.1.length/\∀j,j<i->(!(gY (w.1.2.1.getD j (0,[]))).any λn=>!w.2.1.contains n)=ab) (λi:Nat=>[(0,dI k),(3,.e (.one (.ptr 0 0))),(5,.e (.one (.c (.rp [.val m])))),(22,cX.sl w.1.2.1),(23,dI w.1.2.1.length),(24,dI i)]) (λ_=>[n9 w,EJ m w.2.1,.dead]) (λi=>w.1.2.1.length-i) 0 rfl (by simp) rfl (by simp) rfl ⟨by omega,by omega⟩ ?_;have F:=q.sN;rintro i ⟨hi,a⟩;by_cases h:i<w.1.2.1.length
 .have s:w.1.2.1.getD (i:Int).toNat cX.b8=w.1.2.1.getD i (0,[]):=by grind
  have t:=q.sm _ (iy (d:=(0,[])) h);have G:=HL h;have I:=q.aN;have H:=ft (p:=λj=>!(gY (w.1.2.1.getD j (0,[]))).any λn=>!w.2.1.contains n) h;have u:=gb (p:=λj=>!(gY (w.1.2.1.getD j (0,[]))).any λn=>!w.2.1.contains n) (i:=i);generalize w.1.2.1.getD i (0,[])=x at *;refine AK.fa fC kS b [(25,ab)] 100 rfl (by simp;omega) ?_;rw[s];refine AK.cQ (EK x t.1 (by omega)) [] rfl ?_;refine AK.fa fC kS b [] 100 rfl aq ?_;refine AK.cQ (KI (gY x) 44 [.val m] (tp m w.2.1) (λn=>!w.2.1.contains n) λn _=>AD m w.2.1 n) [1] rfl ?_;cases E:(gY x).any λn=>!w.2.1.contains n with
  |true =>
   refine AK.fa fC kS b [] 100 rfl aq (AK.eP (cg.zero rfl ?_));rw[H (by grind)];simp
  |false =>
   refine AK.fa fC kS b [] 100 rfl ?_ (AK.aQ (i+1) rfl (by simp) (by simp) ⟨h,u a (by grind)⟩ (by omega));simp[bt];omega
 obtain rfl:i=w.1.2.1.length:=by omega
 rw[cK.2 a,eL];refine AK.fa fC kS b [(25,ae)] 100 rfl (by simp) (AK.leaveD rfl rfl ?_);refine AK.fa fC kS b [] 100 rfl aq ?_;have B:=q.R9;refine AK.bS 3 (λi=>i<=w.2.2.length/\∀j,j<i->lT w.1.1 w.2.2 j=ab) (λi:Nat=>[(0,dI k),(3,.e (.one (.ptr 0 0))),(34,cI.sl w.2.2),(35,dI w.2.2.length),(36,dI i)]) (λ_=>[n9 w,EJ m w.2.1,.dead]) (λi=>w.2.2.length-i) 0 rfl (by simp) rfl (by simp) rfl ⟨by omega,by omega⟩ ?_;rintro i ⟨hi,a⟩;by_cases h:i<w.2.2.length
 .have s:w.2.2.getD (i:Int).toNat cI.b8=w.2.2.getD i 0:=by grind
  have g:w.2.2.getD (i-1) cI.b8=w.2.2.getD (i-1) 0:=rfl;have J:lT w.1.1 w.2.2 i=((w.1.1.any λp=>p.1==w.2.2.getD i 0)&&xc (λx=>x) 0 w.2.2 i):=rfl;have C:=mm (f:=λx:Int=>x) (d:=0) (l:=w.2.2) (i:=i);generalize w.2.2.getD i 0=n at *;generalize w.2.2.getD (i-1) 0=n' at *;have oC:bR (Cx.beside ag) [(45,mH [cP.sl w.1.1,.e (.one (.c (.fn (.func 46) [] [.rp [.int .i64 n]])))] (dB (w.1.1.any λp=>p.1==n)))]:=.cons (nZ (KG w.1.1 46 [.int .i64 n] (λp=>p.1==n) λp _=>HK p n)) .nil;refine AK.fa fC kS b [(37,ab),(1000014,ab)] 100 rfl (by simp;omega) ?_;rw[s];refine AK.freeze 9 3 rfl rfl rfl ?_;have fin:w.1.1.any (λp=>p.1==n)=ab->xc (λx=>x) 0 w.2.2 i=ab->lT w.1.1 w.2.2 i=ab:=λE K=>by grind
  by_cases D:i=0
  .subst D;cases o:w.1.1.any (λp=>p.1==n)with
   |true =>
    refine AK.fa fC kS oC [(43,ae),(60,ae)] 100 rfl ?_ (AK.aQ 1 rfl (by simp) (by simp) ⟨h,gb a (fin o rfl)⟩ (by omega));simp[bt,o,iT.sl]
   |false =>
    refine AK.fa fC kS oC [(43,ae),(60,ab)] 100 rfl ?_ (AK.eP (cg.zero rfl ?_))
    .simp[o,iT.sl]
    .rw[ft h (by grind)];simp
  by_cases L:n'<n
  rotate_left
  .refine AK.fa fC kS oC [(43,ab),(51,ab),(60,ab)] 100 rfl ?_ (AK.eP (cg.zero rfl ?_))
   .simp[-ah,g,bt];omega
   .rw[ft h (by grind)];simp
  cases o:w.1.1.any (λp=>p.1==n)with
  |true =>
   refine AK.fa fC kS oC [(43,ab),(51,ae),(60,ae)] 100 rfl ?_ (AK.aQ (i+1) rfl (by simp) (by simp) ⟨h,gb a (fin o (by grind))⟩ (by omega));simp[-ah,g,bt,o,iT.sl];omega
  |false =>
   refine AK.fa fC kS oC [(43,ab),(51,ae),(60,ab)] 100 rfl ?_ (AK.eP (cg.zero rfl ?_))
   .simp[-ah,g,bt,o,iT.sl];omega
   .rw[ft h (by grind)];simp
 obtain rfl:i=w.2.2.length:=by omega
 rw[cK.2 a];refine AK.fa fC kS b [(37,ae)] 100 rfl (by simp) (AK.leaveD rfl rfl ?_);exact AK.fa fC kS b [] 100 rfl aq (AK.bq rfl)
abbrev qe:dv:=nt aI (WV W5) (λk w=>dB (dz k w)) λ_ w=>[Uc w]
def tv:dH (Cx.beside ag) 21 qe:=.qn λk w h=>CL k w h
section
variable {X:Cx ag}
def rh(l:List Int)(v:Int):Int:=match l.findIdx? (λx=>x==v)with
 |some i=>i
 |none=>-1
def H7(l:List Int)(v:Int):Ev X 67 [cI.sl l,dI v] [] (dI (rh l v)) []:=by
 refine Ev.bQ Tryz.func67 rfl λc=>?_;have f:=c.sl 0 rfl;refine bA rfl aq ?_;refine AK.bS 0 (λi=>i<=l.length/\∀j,j<i->l.getD j 0≠v) (λi:Nat=>[(0,cI.sl l),(1,dI v),(7,dI l.length),(8,dI i)]) (λ_=>[]) (λi=>l.length-i) 0 rfl (by simp) rfl aq rfl ⟨by omega,by omega⟩ ?_;rintro i ⟨hi,a⟩;by_cases h:i<l.length
 .have b:l.getD (i:Int).toNat cI.b8=l.getD i 0:=rfl;by_cases d:l.getD i 0=v
  .have:rh l v=i:=by
    have:l.findIdx? (λx=>x==v)=aa i:=by rw[qA];exact⟨h,by grind,λj e=>by grind⟩
    simp only[rh,this]
   rw[this];refine aY [(9,ab),(16,ab)] rfl ?_ (AK.eP (cg.zero rfl));simp only[ar,b,bh,eG,aC,aB];and_intros<;>first|exact d.symm|omega
  .refine aY [(9,ab),(16,ae)] rfl ?_ (AK.aQ (i+1) rfl ?_ aq ⟨h,λj e=>?_⟩ (by omega))
   .simp only[ar,b,bt,bh,dG,aC,aB];and_intros<;>first|grind|omega
   .simp
   grind
 .have:rh l v=-1:=by
   have:l.findIdx? (λx=>x==v)=af:=by grind[List.getElem_of_mem]
   simp only[rh,this]
  rw[this];refine aY [(9,ae)] rfl (by simp only[ar,bM];omega) (AK.leaveD rfl rfl ?_);exact bA rfl aq (AK.bq rfl)
abbrev Gw:dv:=nt (aL cI) aI (λl v=>dB (l.contains v)) λ_ _=>[]
def On:dH X 31 Gw:=.qn λl v _=>by refine Ev.bQ Tryz.func31 rfl λb=>?_;have a:bR X [(67,nt (aL cI) aI (λl v=>dI (rh l v)) λ_ _=>[])]:=.cons (.qn λl v _=>H7 l v) .nil;refine bX a rfl (by simp only[ar];exact cI.au _) (AK.bq rfl ?_);simp only[ar,cI.list_fn,aB];unfold rh;grind
end
section
variable {X:Cx ag}
def xC(p:bo)(ns:List Int)(g:p.2.length<=4000000):Ev X 11 [qo p,cI.sl ns] [] (qo (ck p ns)) []:=by
 refine Ev.kW tok Tryz.func11 rfl rfl rfl λm=>?_;have b:bR X [(31,Gw)]:=.cons On .nil;refine aZ b [(1000002,ab)] rfl aq ?_;refine AK.iv 2 1 60 2 (ef.fn []) rfl rfl ?_;refine bX b rfl aq ?_;refine AK.bS 4 (λi=>i<=p.2.length) (λi:Nat=>[(1,cI.sl ns),(4,.e (.one (.ptr 1 0))),(5,.e (.one (.ptr 2 0))),(12,ef.sl p.2),(13,dI p.2.length),(14,dI i)])
  (λi=>Uw p ((p.2.take i).filter λx=>ns.contains x.1)) (λi=>p.2.length-i) 0 rfl (by simp) rfl (by simp) rfl (by omega) ?_
 intro i hi;have l:=filter_le p.2 (λx=>ns.contains x.1) hi;by_cases h:i<p.2.length
 .have f:p.2.getD i ef.b8=fI p i:=rfl;have c:(p.2.take (i+1)).filter (λx=>ns.contains x.1)=if ns.contains (fI p i).1=ab then(p.2.take i).filter (λx=>ns.contains x.1)++[fI p i]else(p.2.take i).filter (λx=>ns.contains x.1):=rf h (0,[]);generalize(p.2.take i).filter (λx=>ns.contains x.1)=a at *;generalize fI p i=x at *;cases d:ns.contains x.1 with
  |true =>
   rw[bc d]at c;have g:=ef.cm a x;refine aZ b [(15,ab),(21,ab)] rfl ?_ (AK.aQ (i+1) rfl (by simp) ?_ h (by omega))
   .simp[-ah,-List.contains_eq_mem,f,h,d,cI.list_fn,cI.au,bt,show i60.bytes=24 from rfl];omega
   .rw[c];simp only[ar.cat,ar,bD,f,bT,eb,aC,aB];and_intros<;>first|exact cq.same|exact g|rfl|omega
  |false =>
   rw[aW (by rw[d];simp)]at c;refine aZ b [(15,ab),(21,ae)] rfl ?_ (AK.aQ (i+1) rfl (by simp) ?_ h (by omega))
   .simp[-ah,-List.contains_eq_mem,f,h,d,cI.list_fn,cI.au,bt];omega
   .rw[c];simp
 obtain rfl:i=p.2.length:=by omega
 rw[cB];refine aO b [(15,ae)] rfl (by simp) (AK.leaveD rfl rfl ?_);refine bX b rfl aq ?_;refine AK.kV () [] rfl rfl rfl rfl rfl rfl rfl rfl ?_ rfl rfl rfl rfl (λj k=>absurd k (by simp));simp[ck]
abbrev YK(w:br)(a b:Bool):List bm :=
 match a,b with
 |false,_=>[n9 w,.cells 30 l6]
 |true,ae=>[n9 w,.cells 30 l6,.buf 39 2 w.1.1.length (cP.fn w.1.1),.buf 68 2 w.1.2.1.length (cX.fn w.1.2.1)]
 |true,ab=>[n9 w,.cells 30 [.bp 2 (.sl w.1.1.length 2 0 w.1.1.length),.bp 3 (.sl w.1.2.1.length 2 0 w.1.2.1.length),kn cH w.1.2.2,kn cI (cI.list w.2.1.length (cI.fn w.2.1)),kn cI (cI.list w.2.2.length (cI.fn w.2.2))],.buf 39 2 w.1.1.length (cP.fn w.1.1),.buf 68 2 w.1.2.1.length (cX.fn w.1.2.1)]
abbrev xCl(w:br)(i:Nat):D :=
 [.e (.one (.ptr 0 0)),l4 w.1,.e (.agg [.bp 2 (.sl w.1.1.length 2 0 w.1.1.length),.bp 3 (.sl w.1.2.1.length 2 0 w.1.2.1.length),kn cH w.1.2.2]),.e (.one (.ptr 0 3)),cI.sl w.2.1,cI.sl (cI.list w.2.1.length (cI.fn w.2.1)),.e (.one (.ptr 0 4)),cI.sl w.2.2,cI.sl (cI.list w.2.2.length (cI.fn w.2.2)),
  .e (.agg [.bp 2 (.sl w.1.1.length 2 0 w.1.1.length),.bp 3 (.sl w.1.2.1.length 2 0 w.1.2.1.length),kn cH w.1.2.2,kn cI (cI.list w.2.1.length (cI.fn w.2.1)),kn cI (cI.list w.2.2.length (cI.fn w.2.2))]),.any].getD i .any
def E8(w:br)(b:gF w.1)(g:w.2.1.length<=4000000)(i:w.2.2.length<=4000000):Ev X 25 [nu w] [] (.e (.agg [.bp 0 (.sl w.1.1.length 2 0 w.1.1.length),kn cX w.1.2.1,kn cH w.1.2.2,kn cI w.2.1,kn cI w.2.2])) [.buf 39 2 w.1.1.length (cP.fn w.1.1)]:=by
 refine Ev.kW tok Tryz.func25 rfl rfl rfl λk=>?_
 have a:bR X [(55,yu [l4 w.1] [] (.e (.agg [.bp 0 (.sl w.1.1.length 2 0 w.1.1.length),.bp 1 (.sl w.1.2.1.length 2 0 w.1.2.1.length),.c (.sl ae 2 w.1.2.2.length (cH.fn w.1.2.2))])) [.buf 39 2 w.1.1.length (cP.fn w.1.1),.buf 68 2 w.1.2.1.length (cX.fn w.1.2.1)]),
   (56,kF (aL cI) (λl=>cI.sl l) λl=>[l.length<=4000000])]:=.cons (yv (o8 w.1 b.p b.p2 b.sn b.s2 b.h)) (.cons (.oz λl h=>qU l h) .nil)
 refine aZ a [(1000001,ab)] rfl aq ?_;refine AK.flags fC (xCl w) (tT (YK w) 2 10) rfl rfl rfl rfl
  ⟨.s9 tok a,.s9 tok a,e9.sA rfl rfl (eZ (ds:=[]) tok a (σ':=aa _) rfl (by simp)),.s9 tok a,.s9 tok a,.M3 tok a (ho:=by exact⟨cI.au _,by rw[cI.list_fn];exact g⟩),.s9 tok a,.s9 tok a,.M3 tok a (ho:=by exact⟨cI.au _,by rw[cI.list_fn];exact i⟩),.s9 tok a,
   e9.sB rfl rfl (eZ (ds:=[]) tok a (σ':=aa _) rfl aq),aq⟩ ?_
 intro D d;show AK X _ _ _ _ _ (YK w (D 2) (D 10));rw[d 2 (by decide),d 10 (by decide)];refine Ug a [] 1 rfl aq ?_;refine AK.rM 3 rfl rfl rfl (by simp) (by simp) ?_;refine AK.norm [n9 w,.cells 30 [.bp 2 (.sl w.1.1.length 2 0 w.1.1.length),kn cX w.1.2.1,kn cH w.1.2.2,kn cI w.2.1,kn cI w.2.2],.buf 39 2 w.1.1.length (cP.fn w.1.1),.dead] rfl ?_ ?_
 .simp[cI.list_fn,qK]
 refine AK.kV () [2] rfl rfl rfl rfl rfl rfl rfl rfl ?_ rfl rfl rfl rfl (λj f=>absurd f (by simp));simp
abbrev H4(l:List bo):bm:=.buf 39 2 l.length (cP.fn l)
abbrev Vg(n m:Nat):D:=.e (.one (.bp 0 (.sl n 2 0 m)))
def Db(l:List bo)(m:Nat)(s:m<=l.length)(v:l.length<=4000000)(f:Nat)(cs:List C)(q:bo->Bool)(r:∀x,x∈l.take m->Ev X f [qo x,.e (.one (.c (.rp cs)))] [] (dB (q x)) []):
  Ev X 57 [Vg l.length m,.e (.one (.c (.fn (.func f) [] [.rp cs])))] [H4 l] (dI (n6 q (l.take m))) [H4 l]:=by
 refine Ev.bQ Tryz.func57 rfl λu=>?_;refine bA rfl aq ?_;have n:(l.take m).length=m:=by simp;omega
 have b:∀j,j<m->(l.take m).getD j (0,[])=l.getD j (0,[]):=λj g=>by simp[eK,g]
 refine AK.bS 1 (λi=>i<=m/\∀j,j<i->q ((l.take m).getD j (0,[]))=ae) (λi:Nat=>[(0,Vg l.length m),(1,.e (.one (.c (.fn (.func f) [] [.rp cs])))),(7,dI m),(8,dI i)]) (λ_=>[H4 l]) (λi=>m-i) 0 rfl (by simp) rfl (by simp) rfl ⟨by omega,by omega⟩ ?_;rintro i ⟨hi,a⟩;by_cases h:i<m
 .have o:l.getD i (0,[])∈l.take m:=by rw[<-b i h];grind
  have p:l.getD ((0+(i:Int).toNat:Nat)) cP.b8=l.getD i (0,[]):=by simp;rfl
  refine aY [(9,ab)] rfl ?_ ?_
  .simp only[ar];grind
  rw[p];refine AK.cQ (r _ o) [] rfl ?_;cases k:q (l.getD i (0,[]))with
  |true =>
   refine aY [(16,ab)] rfl (by simp) (AK.eP (cg.mk [0] rfl ?_ rfl rfl rfl nY));simp[u9 (t:=l.take m) (d:=(0,[])) (by omega) (by rw[b i h];exact k) a]
  |false =>
   refine aY [(16,ae)] rfl ?_ (AK.aQ (i+1) rfl (by simp) (by simp) ⟨h,λj g=>?_⟩ (by omega))
   .simp[bt];omega
   .by_cases e:j=i
    .rw[e,b i h];exact k
    .exact a j (by omega)
 .refine aY [(9,ae)] rfl (by simp;omega) (AK.leaveD rfl rfl ?_);refine bA rfl aq (AK.dY [0] rfl ?_ rfl rfl rfl nY);simp[p6 (t:=l.take m) (d:=(0,[])) (λj g=>a j (by omega))]
def x8(l:List bo)(m i:Nat):List bo:=(l.take m).eraseIdx i++(0,[])::l.drop m
def LP{l:List bo}{m:Nat}(a:m<=l.length)(hi:i<m):(x8 l m i).length=l.length:=by unfold x8;rw[bT,yZ (by simp;omega)];simp;omega
def Dd(l:List bo)(m i:Nat)(A:m<=l.length)(hi:i<m)(z:l.length<=4000000):
  Ev X 59 [Vg l.length m,dI i,dI ((i:Int)+1)] [H4 l] (Vg l.length (m-1)) [.buf 39 2 l.length (cP.fn (x8 l m i))]:=by
 refine Ev.bQ Tryz.func59 rfl λy=>?_;refine bE [(16,ae),(1000006,ab)] rfl ?_ ?_
 .simp[cr];omega
 have w:cr m (aa (i:Int))-cr 0 af+(cr m af-cr 0 (aa ((i:Int)+1)))=m-1:=by simp[cr];omega
 rw[w];refine AK.region ?_;refine BU [] 4 rfl aq ?_;refine AK.law (bF.FX tok rfl rfl rfl rfl rfl rfl rfl rfl rfl (by omega) (by omega) (by omega)) rfl rfl ?_;refine AK.law (bF.Dz tok rfl rfl rfl rfl rfl rfl ?_) rfl rfl ?_
 .simp only[cr,bD];omega
 refine bE [(1000007,ab)] rfl aq ?_;refine AK.Ov 0 (cP.fn (x8 l m i)) rfl (λ_ _=>rfl) (λM idx ia j g p=>?_) ?_
 .have s:cr m (aa (i:Int))-cr 0 af=i:=by simp[cr]
  have t:cr 0 (aa ((i:Int)+1))=i+1:=by simp only[cr];omega
  have k:cr m af=m:=rfl;simp only[bD];rw[s,t,k];have u:(x8 l m i).getD idx (0,[])=if idx<i then l.getD idx (0,[])else if idx<m-1 then l.getD (idx+1) (0,[])else if idx<m then(0,[])else l.getD idx (0,[]):=by
   unfold x8;have e:((l.take m).eraseIdx i).length=m-1:=by rw[yZ (by simp;omega)];simp;omega
   simp only[ah];by_cases f:idx<m-1
   .rw[iE (by omega),List.getElem?_eraseIdx];by_cases c:idx<i
    .rw[bc c,bc c,eK,bc (by omega)]
    .rw[aW c,aW c,bc f,eK,bc (by omega)]
   .rw[fR (by omega),e];by_cases o:idx=m-1
    .subst o;rw[aW (by omega),aW (by omega),bc (by omega)];simp
    .obtain⟨d,rfl⟩:∃d,idx=m+d:=⟨idx-m,by omega⟩
     rw[aW (by omega),aW (by omega),aW (by omega),show m+d-(m-1)=d+1 by omega];simp[oF]
  have a:(cP.enc ((x8 l m i).getD idx (0,[])))[j]?=aa g:=p;rw[u]at a;by_cases f:idx=m-1
  .subst f;rw[aW (by omega),aW (by omega),bc (by omega)]at a;have n:nQ (0+(m-1)) (0+(m-1)+(m-(m-1))) i39.zero (zg i (0+(i+1)) (m-(i+1)) (cP.fn l)) (m-1)=i39.zero:=bc (by omega);rw[n]
   match j,a with
   |0,a=>exact⟨_,rfl,λv r=>by cases a;exact r⟩
   |1,a=>exact⟨_,rfl,λv r=>by cases a;exact Ji (x:=.sl ab 0 0 λ_=>[]) rfl ⟨rfl,rfl⟩ r⟩
  .refine⟨g,?_,λ_ r=>r⟩;rw[<-a];congr 1;unfold nQ zg;rw[aW (by omega)];have b:∀q,cP.fn l q=cP.enc (l.getD q (0,[])):=λ_=>rfl;by_cases c:idx<i
   .rw[aW (by omega),bc c,b]
   .rw[aW c];by_cases h:idx<m-1
    .rw[bc (by omega),bc h,b,show 0+(i+1)+(idx-i)=idx+1 by omega]
    .rw[aW (by omega),aW h,aW (by omega),b]
 refine c6 rfl aq (AK.dY [0] rfl ?_ rfl rfl rfl nY);simp;rfl
end
def kK(w:br):Nat->br
 |0=>w
 |j+1=>eC (kK w j)
def tF{w:br}:∀{j:Nat},j<=w.2.2.length->(kK w j).1.2=w.1.2/\(kK w j).2.1=w.2.1/\(kK w j).2.2=w.2.2.drop j/\(kK w j).1.1=(w.2.2.take j).foldl (λps no=>cp no w.2.1 ps) w.1.1
 |0,_=>⟨rfl,rfl,rfl,rfl⟩
 |j+1,h=>by
  obtain⟨f,a,b,c⟩:=tF (w:=w) (j:=j) (by omega);have d:w.2.2.drop j=w.2.2.getD j 0::w.2.2.drop (j+1):=by rw[sE (by omega)];simp[bn (show j<w.2.2.length by omega)]
  have e:kK w (j+1)=((cp (w.2.2.getD j 0) w.2.1 (kK w j).1.1,(kK w j).1.2),(kK w j).2.1,w.2.2.drop (j+1)):=by rw[show kK w (j+1)=eC (kK w j)from rfl];unfold eC;rw[b,d,a]
  rw[e,bx (by omega) 0,uM,<-c];exact⟨f,a,rfl,rfl⟩
def mK.kK{k:Int}{w:br}(h:mK k w):∀j,mK k (kK w j)
 |0=>h
 |j+1=>(mK.kK h j).step
def yX{ms:List Int}{no:Int}:∀{ps:List bo}{i:Nat},(ps.Pairwise λp q=>p.1<q.1)->(∀p∈ps,p.2≠[])->i<ps.length->(ps.getD i (0,[])).1=no ->
  n6 (λp:bo=>p.1==no) ps=i/\cp no ms ps=if(ck (ps.getD i (0,[])) ms).2.length=0 then ps.eraseIdx i else ps.set i (ck (ps.getD i (0,[])) ms)
 |p::ps,0,k,c,_,h=>by
  obtain⟨f,m⟩:=qD.1 k;simp only[List.getD_cons_zero]at h⊢;have e:ps.map (eu no ms)=ps:=by rw[zc (g:=id) λq b=>by have:=f q b;exact aW (by omega),List.map_id]
  refine⟨by simp[n6,List.findIdx?_cons,h],?_⟩;unfold cp;rw[kZ,e,show eu no ms p=ck p ms from bc h,rv,List.filter_eq_self.2 λq b=>by simpa using c q (mx _ b)];split<;>split<;>simp_all
 |p::ps,i+1,k,c,hi,h=>by
  obtain⟨f,m⟩:=qD.1 k;simp only[List.getD_cons_succ,en]at h hi⊢;obtain⟨k1,n⟩:=yX (ms:=ms) (i:=i) m (λq b=>c q (mx _ b)) (by omega) h;have o:ps.getD i (0,[])∈ps:=by grind
  have a:p.1≠no:=by have:=f _ o;omega
  have d:=c p oE;refine⟨?_,?_⟩
  .unfold n6 at k1⊢;rw[List.findIdx?_cons];have:(p.1==no)=ae:=by simpa using a
   rw[this];cases l:ps.findIdx? λp=>p.1==no with
   |none=>rw[l]at k1;simp only at k1;omega
   |some j=>rw[l]at k1;simp only at k1;simp;omega
  .have e:cp no ms (p::ps)=p::cp no ms ps:=by unfold cp;rw[kZ,show eu no ms p=p from aW a,rv,bc (by simpa using d)]
   rw[e,n];split<;>simp
def iD(ms:List Int)(l:List bo)(m i:Nat):List bo×Nat :=
 if(ck (l.getD i (0,[])) ms).2.length=0 then(x8 l m i,m-1)else(l.set i (ck (l.getD i (0,[])) ms),m)
def LQ{ms:List Int}{no:Int}{l:List bo}{m:Nat}(c:m<=l.length)(hi:i<m)(f:(l.take m).Pairwise λp q=>p.1<q.1)(d:∀p∈l.take m,p.2≠[])(h:(l.getD i (0,[])).1=no):
  n6 (λp:bo=>p.1==no) (l.take m)=i/\(iD ms l m i).1.length=l.length/\(iD ms l m i).2<=m/\(iD ms l m i).1.take (iD ms l m i).2=cp no ms (l.take m):=by
 have a:(l.take m).getD i (0,[])=l.getD i (0,[]):=by simp[eK,hi]
 obtain⟨k1,b⟩:=yX (ms:=ms) (no:=no) (ps:=l.take m) (i:=i) f d (by rw[List.length_take];omega) (a▸h);rw[a]at b;rw[b];unfold iD;split
 .refine⟨k1,LP c hi,by omega,?_⟩;unfold x8;have e:((l.take m).eraseIdx i).length=m-1:=by rw[yZ (by simp;omega)];simp;omega
  simp only;exact List.take_left' e
 .exact⟨k1,by simp,ba _,by rw[List.take_set]⟩
section
variable {X:Cx ag}
def Dc(p:bo)(n:Int):Ev X 58 [qo p,.e (.one (.c (.rp [.int .i64 n])))] [] (dB (p.1==n)) []:=by refine Ev.bQ Tryz.func58 rfl λa=>?_;exact bA rfl aq (AK.bq rfl)
abbrev Se(n m:Nat)(a:List cW)(c:List (Int×Int))(ms lf:List Int)(b:Nat):bm:=.cells 30 [.bp b (.sl n 2 0 m),kn cX a,kn cH c,kn cI ms,kn cI lf]
abbrev vi(l:List bo)(i:Nat):bo:=l.getD (0+(i:Int).toNat) cP.b8
abbrev xPr(l:List bo)(m i:Nat)(ms:List Int)(k:Nat):D :=
 [.e (.one (.ptr 3 0)),.e (.one (.ptr 3 0)),.e (.one (.ptr 3 0)),.e (.one (.ptr 3 0)),.e (.one (.bp 2 (.sl l.length 2 0 m))),dI i,.e (.one (.bp 2 (.el l.length 2 (0+(i:Int).toNat) 0))),qo (vi l i),
  .e (.one (.ptr 3 0)),.e (.one (.ptr 3 0)),.e (.one (.ptr 3 3)),cI.sl ms,qo (ck (vi l i) ms),.e (.one (.ptr 6 0)),.any].getD k .any
abbrev Sf:bm:=.cells 27 [iN,iN,iN]
abbrev Vf(l:List bo)(i:Nat)(ms:List Int):bm:=.cells 39 [.c (.int .i64 (vi l i).1),.c (sP (ck (vi l i) ms))]
abbrev YL(w:br)(H:aj->(Nat->Option Obj)->Prop)(l:List bo)(m i:Nat)(d:List cW)(e:List (Int×Int))(ms lf:List Int)(a b:Bool):List bm :=
 match a,b with
 |false,_=>[n9 w,Sf,H4 l,Se l.length m d e ms lf 2,.dg H,.dead]
 |true,ae=>[n9 w,Sf,H4 l,Se l.length m d e ms lf 2,.dg H,.dead,.cells 39 [.c (.int .i64 0),iN]]
 |true,ab=>[n9 w,Sf,H4 l,Se l.length m d e ms lf 2,.dg H,.dead,Vf l i ms]
set_option maxRecDepth 20000 in
def E9(w:br)(H:aj->(Nat->Option Obj)->Prop)(no:Int)(l:List bo)(m i:Nat)(g:List cW)(h:List (Int×Int))(ms lf:List Int)(k:m<=l.length)(o:l.length<=4000000)(hi:i<m)(q:n6 (λp:bo=>p.1==no) (l.take m)=i)(b:∀p∈l,p.2.length<=4000000):
  dW (ι:={es:Nat->List C // cq l.length es (cP.fn (iD ms l m i).1)}) X 26 [.e (.one (.ptr 3 0)),dI no] [n9 w,Sf,H4 l,Se l.length m g h ms lf 2,.dg H] (λ_=>.fK []) (λes=>[n9 w,Sf,.buf 39 2 l.length es.1,Se l.length (iD ms l m i).2 g h ms lf 2,.dg H,.dead,Vf l i ms]):=by
 refine dW.DT Tryz.func26 rfl rfl rfl (AK.of_code ?_);refine bE [(1000001,ab)] rfl aq ?_;refine AK.freeze 3 5 rfl rfl rfl ?_;refine c6 rfl aq ?_;refine AK.cQ (Db l m k o 58 [.int .i64 no] (λp=>p.1==no) λp _=>Dc p no) [2] rfl ?_;rw[q];have f:vi l i=l.getD i (0,[]):=by simp;rfl
 have c:vi l i∈l:=by rw[f];grind
 have a:bR X [(11,mH [qo (vi l i),cI.sl ms] (qo (ck (vi l i) ms)))]:=.cons (nZ (xC (vi l i) ms (b _ c))) .nil;have ho:0<=(i:Int)/\(i:Int)<((m:Nat):Int):=by omega
 have j:l.length=l.length/\0+(i:Int).toNat<l.length:=⟨rfl,by omega⟩
 refine bE [(1000002,ab)] rfl aq ?_;refine AK.flags fC (xPr l m i ms) (tT (YL w H l m i g h ms lf) 13 14) rfl rfl rfl rfl
  ⟨.s9 tok a,.s9 tok a,.s9 tok a,.s9 tok a,.s9 tok a,.s9 tok a,.M3 tok a (ho:=by exact ho),.M3 tok a (ho:=by exact j),.s9 tok a,.s9 tok a,.s9 tok a,.s9 tok a,.M3 tok a (ho:=by exact rfl),
   e9.sA rfl rfl (eZ (ds:=[]) tok a (σ':=aa _) rfl aq),e9.sB rfl rfl (eZ (ds:=[]) tok a (σ':=aa _) rfl aq),aq⟩ ?_
 intro D n;show AK X _ _ _ _ _ (YL w H l m i g h ms lf (D 13) (D 14));rw[n 13 (by decide),n 14 (by decide)];unfold iD;by_cases d:(ck (vi l i) ms).2.length=0
 .rw[bc (by rw[<-f];exact d)];refine bE [(29,ab)] rfl ?_ ?_
  .simp only[ar,bt,d];exact⟨by omega,rfl⟩
  refine AK.cQ (Dd l m i k hi o) [2] rfl ?_;refine c6 rfl aq ?_;exact⟨⟨_,cq.same⟩,.inr rfl,rfl,rfl,_,_,_,rfl,rfl,rfl,aq⟩
 .rw[aW (by rw[<-f];exact d)];refine bE [(29,ae)] rfl ?_ ?_
  .simp only[ar];exact⟨aq,by omega,by omega,by omega,by simpa using d⟩
  refine⟨⟨mZ (0+(i:Int).toNat) [.int .i64 (vi l i).1,sP (ck (vi l i) ms)] (cP.fn l),?_⟩,.inr rfl,rfl,rfl,_,_,_,rfl,rfl,rfl,aq⟩;have:=cP.Eu l i (ck (vi l i) ms) l.length (ba _);rw[f]at *;rw[show 0+(i:Int).toNat=i by omega];exact this
end
def E7(k:Int)(w:br):bw×Bool:=if dz k w=ab then((kK w w.2.2.length).1,ab)else(([],[],[]),ae)
structure LO(w:br)(n0 j:Nat)(l:List bo)(m:Nat):Prop where
 hj:j<=w.2.2.length
 len:l.length=n0
 hm:m<=n0
 now:l.take m=(kK w j).1.1
 sz:∀p∈l,p.2.length<=4000000
abbrev YM(w:br)(l:List bo)(m:Nat)(H:aj->(Nat->Option Obj)->Prop):List bm:=[n9 w,Sf,H4 l,Se l.length m w.1.2.1 w.1.2.2 w.2.1 w.2.2 2,.dg H]
def LO.next{k:Int}{w:br}{o:Nat}{l:List bo}{m:Nat}(r:mK k w)(h:LO w o j l m)(b:j<w.2.2.length):
  ∃i,i<m/\n6 (λp:bo=>p.1==w.2.2.getD j 0) (l.take m)=i/\LO w o (j+1) (iD w.2.1 l m i).1 (iD w.2.1 l m i).2:=by
 have d:=r.kK j;obtain⟨h1,h2,n,x⟩:=tF (w:=w) (j:=j) h.hj;have q:w.2.2.drop j=w.2.2.getD j 0::w.2.2.drop (j+1):=by rw[sE b];simp[bn b]
 obtain⟨p,a,g⟩:=d.lp (w.2.2.getD j 0) (by rw[n,q];exact oE);rw[<-h.now]at a;obtain⟨i,hi,e⟩:=dL a;rw[List.length_take]at hi;have c:i<m:=by omega
 have s:(l.getD i (0,[])).1=w.2.2.getD j 0:=by rw[<-g,<-e];simp[bn (show i<l.length by omega)]
 have f:∀p∈l.take m,p.2≠[]:=λp a=>by rw[h.now]at a;have:=(d.pk p a).len.1;grind
 obtain⟨k1,t,v,u⟩:=LQ (ms:=w.2.1) (by rw[h.len];exact h.hm) c (by rw[h.now];exact d.pa) f s;refine⟨i,c,k1,b,by rw[t,h.len],fG v h.hm,?_,λp a=>?_⟩
 .rw[u,h.now];rw[show kK w (j+1)=eC (kK w j)from rfl];unfold eC;rw[n,q,h2]
 .unfold iD at a;split at a
  .unfold x8 at a;simp only[ff,eY]at a;rcases a with a|a|a
   .exact h.sz p (jR (List.mem_of_mem_eraseIdx a))
   .rw[a];simp
   .exact h.sz p (y9 a)
  .rcases List.mem_or_eq_of_mem_set a with a|a
   .exact h.sz p a
   .rw[a];have hm:l.getD i (0,[])∈l:=by grind
    exact fG (sG _ _) (h.sz _ hm)
def AV(k:Int)(w:br)(c:Uc w)(s:gF w.1):Ev (Cx.beside ag) 17 [dI k,nu w] [] (R7 (E7 k w).1 (E7 k w).2) []:=by
 refine Ev.mb Tryz.func17 rfl rfl rfl λA=>?_;have v:bR (Cx.beside ag) [(21,qe)]:=.cons tv .nil;have B:=s.p;have u:=c.R9;unfold E7;cases f:dz k w with
 |false =>
  refine aZ v [(14,ab)] rfl ?_ ?_
  .simp only[ar,cP.list_fn,cP.au,cX.list_fn,cX.au,cH.list_fn,cH.au,cI.list_fn,cI.au,f,c,aC,aB,fE]
  refine AK.freeze 4 1 rfl rfl rfl ?_;refine AK.lD tok [] rfl ?_ rfl rfl rfl jF;simp
 |true =>
 rw[bc rfl];have y:=gf.1 f;refine aZ v [(14,ae)] rfl ?_ ?_
 .simp only[ar,cP.list_fn,cP.au,cX.list_fn,cX.au,cH.list_fn,cH.au,cI.list_fn,cI.au,f,c,aC,aB,er]
 refine AK.cQ (E8 w s c.W7 c.R9) [] rfl ?_;refine c6 rfl aq ?_;refine AK.Mn rfl Tryz.underlying64 (fi Tryz.type3) rfl rfl u rfl rfl λd=>?_;refine c6 rfl aq ?_;refine AK.bS 5 (λi=>i<=w.2.2.length) (λi:Nat=>[(4,.e (.one (.ptr 1 0))),(6,.e (.one (.ptr 3 0))),(7,U9 d),(23,cI.sl w.2.2),(24,dI w.2.2.length),(25,dI i)])
  (λi=>YM w w.1.1 w.1.1.length (g7 d w.2.2.length (w.2.2.take i) ae)) (λi=>w.2.2.length-i) 0 rfl (by simp) rfl (by simp) rfl (by omega) ?_
 .intro i hi;by_cases h:i<w.2.2.length
  .have t:w.2.2.getD (i:Int).toNat cI.b8=w.2.2.getD i 0:=rfl;have o:=bx h 0;refine bE [(26,ab)] rfl (by simp;omega) ?_;rw[t];refine AK.zx (mT.send (l:=4) (q:=w.2.2.take i) (cap:=w.2.2.length) rfl rfl rfl rfl (by rw[List.length_take];omega)) rfl rfl ?_;refine c6 rfl ?_ (AK.aQ (i+1) rfl (by simp) ?_ h (by omega))
   .simp[bt];omega
   .rw[o];simp
  obtain rfl:i=w.2.2.length:=by omega
  rw[cB];refine bE [(26,ae)] rfl (by simp) (AK.leaveD rfl rfl ?_);refine c6 rfl aq ?_;refine AK.zx (mT.close (l:=4) rfl rfl rfl) rfl rfl ?_;refine c6 rfl aq ?_;refine AK.bS 5 (λq:Nat×List bo×Nat=>LO w w.1.1.length q.1 q.2.1 q.2.2) (λ_=>[(4,.e (.one (.ptr 1 0))),(6,.e (.one (.ptr 3 0))),(33,U9 d)])
   (λq=>YM w q.2.1 q.2.2 (g7 d w.2.2.length (w.2.2.drop q.1) ab)) (λq=>w.2.2.length-q.1) (0,w.1.1,w.1.1.length) rfl (by simp) rfl (by simp) rfl ⟨j9 _,rfl,ba _,by simp[kK],s.p2⟩ ?_
  rintro⟨j,l,m⟩ a;simp only at a;have b:=a.len;by_cases h:j<w.2.2.length
  .obtain⟨i,hi,z,x⟩:=a.next y h;have t:w.2.2.drop j=w.2.2.getD j 0::w.2.2.drop (j+1):=by rw[sE h];simp[bn h]
   rw[t];refine c6 rfl aq ?_;refine AK.zx (mT.recv (l:=4) rfl Tryz.underlying64 (λw=>Tryz.zeroValue3 w) rfl rfl) rfl rfl ?_;refine bE [(35,ab)] rfl rfl ?_;refine AK.Fb (E9 w _ (w.2.2.getD j 0) l m i w.1.2.1 w.1.2.2 w.2.1 w.2.2 (by rw[b];exact a.hm) (by omega) hi z a.sz) rfl rfl rfl rfl ?_ rfl ?_
   .simp
   rintro⟨es,n⟩;refine c6 rfl aq (AK.aQ (j+1,(iD w.2.1 l m i).1,(iD w.2.1 l m i).2) rfl (by simp) ?_ x (by simp only;omega));have r:(iD w.2.1 l m i).1.length=l.length:=by rw[x.len,b]
   simp only[ar.cat,ar,r,aC,aB];and_intros<;>first|exact cq.same|exact n|rfl
  obtain rfl:j=w.2.2.length:=by have:=a.hj;omega
  rw[pA];refine c6 rfl aq ?_;refine AK.zx (mT.IB (l:=4) rfl Tryz.underlying64 (λw=>Tryz.zeroValue3 w) rfl rfl) rfl rfl ?_;refine bE [(35,ae)] rfl rfl (AK.leaveD rfl rfl ?_);refine AK.rM 2 rfl rfl rfl (by simp) (by simp;rw[b];exact a.hm) ?_;refine c6 rfl aq ?_;refine AK.freeze 4 1 rfl rfl rfl ?_;refine AK.lD tok [] rfl ?_ rfl rfl rfl jF;have e:(kK w w.2.2.length).1=(l.take m,w.1.2):=Prod.ext a.now.symm (tF (ba _)).1;have g:m=(l.take m).length:=by have:=a.hm;simp;omega
  rw[e];simp only[ar.cat,ar,aC,aB];and_intros<;>first|exact cq.same|exact g|rfl|(intro i hi;simp only[qK,iT.fn,xS,ah,eK,hi,bY])
section
variable {X:Cx ag}
def E6(l:List Int)(f:l.length<=4000000):Ev X 56 [cI.sl l] [] (.e (.one (.bp 0 (.sl l.length 1 0 l.length)))) [xz l.length l]:=by
 refine Ev.bQ Tryz.func56 rfl λd=>?_;refine bA rfl aq ?_;refine AK.FQ tok rfl rfl rfl rfl rfl rfl λb c=>?_;cases b with
 |true =>
  obtain rfl:=iV (c rfl);refine bA rfl aq ?_;refine AK.Qu 2 3 1 (cI.fn []) rfl ?_;refine AK.dY [0] rfl ?_ rfl rfl rfl (λj a=>absurd a (by simp));simp
 |false =>
  refine BU [] 7 rfl aq ?_;refine AK.Tb 5 3 1 (cI.fn []) rfl ?_;refine bA rfl ⟨rfl,rfl,show(0+l.length)*8<=_ by omega⟩ ?_;refine AK.norm [xz l.length l] rfl ?_ ?_
  .simp[cq,cR]
  refine AK.dY [0] rfl ?_ rfl rfl rfl (λj a=>absurd a (by simp));simp;rfl
abbrev YI(w:br)(b:Bool):List A:=[.bp 2 (.sl w.1.1.length 2 0 w.1.1.length),.bp 3 (.sl w.1.2.1.length 2 0 w.1.2.1.length),kn cH w.1.2.2,kn cI (cI.list w.2.1.length (cI.fn w.2.1)),.bp 4 (.sl w.2.2.length 1 0 w.2.2.length)]
abbrev YJ(w:br)(a b c d:Bool):List bm :=
 match a,b,c,d with
 |false,_,_,_=>[n9 w,.cells 30 l6]
 |true,_,ae,_=>[n9 w,.cells 30 l6,.buf 39 2 w.1.1.length (cP.fn w.1.1),.buf 68 2 w.1.2.1.length (cX.fn w.1.2.1)]
 |true,_,ab,ae=>[n9 w,.cells 30 l6,.buf 39 2 w.1.1.length (cP.fn w.1.1),.buf 68 2 w.1.2.1.length (cX.fn w.1.2.1),xz w.2.2.length w.2.2]
 |true,_,ab,ab=>[n9 w,.cells 30 (YI w ab),.buf 39 2 w.1.1.length (cP.fn w.1.1),.buf 68 2 w.1.2.1.length (cX.fn w.1.2.1),xz w.2.2.length w.2.2]
abbrev xC9(w:br)(i:Nat):D :=
 [.e (.one (.ptr 0 0)),l4 w.1,.e (.agg [.bp 2 (.sl w.1.1.length 2 0 w.1.1.length),.bp 3 (.sl w.1.2.1.length 2 0 w.1.2.1.length),kn cH w.1.2.2]),.e (.one (.ptr 0 3)),cI.sl w.2.1,cI.sl (cI.list w.2.1.length (cI.fn w.2.1)),.e (.one (.ptr 0 4)),cI.sl w.2.2,.e (.one (.bp 4 (.sl w.2.2.length 1 0 w.2.2.length))),
  .e (.agg (YI w ab)),.any].getD i .any
def C9(w:br)(b:gF w.1)(g:w.2.1.length<=4000000)(i:w.2.2.length<=4000000):Ev X 25 [nu w] [] (.e (.agg [.bp 0 (.sl w.1.1.length 2 0 w.1.1.length),kn cX w.1.2.1,kn cH w.1.2.2,kn cI w.2.1,.bp 1 (.sl w.2.2.length 1 0 w.2.2.length)])) [.buf 39 2 w.1.1.length (cP.fn w.1.1),xz w.2.2.length w.2.2]:=by
 refine Ev.kW tok Tryz.func25 rfl rfl rfl λk=>?_
 have a:bR X [(55,yu [l4 w.1] [] (.e (.agg [.bp 0 (.sl w.1.1.length 2 0 w.1.1.length),.bp 1 (.sl w.1.2.1.length 2 0 w.1.2.1.length),.c (.sl ae 2 w.1.2.2.length (cH.fn w.1.2.2))])) [.buf 39 2 w.1.1.length (cP.fn w.1.1),.buf 68 2 w.1.2.1.length (cX.fn w.1.2.1)]),
   (56,kF (aL cI) (λl=>cI.sl l) λl=>[l.length<=4000000])]:=.cons (yv (o8 w.1 b.p b.p2 b.sn b.s2 b.h)) (.cons (.oz λl h=>qU l h) .nil)
 have oC:bR X [(56,yu [cI.sl w.2.2] [] (.e (.one (.bp 0 (.sl w.2.2.length 1 0 w.2.2.length)))) [xz w.2.2.length w.2.2])]:=.cons (yv (E6 w.2.2 i)) .nil;refine aZ a [(1000001,ab)] rfl aq ?_;refine AK.flags fC (xC9 w) (tN (YJ w) 2 5 8 10) rfl rfl rfl rfl
  ⟨.PZ tok a,.PZ tok a,e9.c1 rfl rfl rfl rfl rfl rfl (eZ (ds:=[]) tok a (σ':=aa _) rfl (by simp)),.PZ tok a,.PZ tok a,e9.c2 rfl rfl rfl rfl rfl rfl (OA.eval (ds:=[]) tok a rfl (by exact⟨cI.au _,by rw[cI.list_fn];exact g⟩)),.PZ tok a,.PZ tok a,e9.c3 rfl rfl rfl rfl rfl rfl (eZ (ds:=[]) tok oC (σ':=aa _) rfl (by exact⟨rfl,rfl⟩)),.PZ tok a,
   e9.c4 rfl rfl rfl rfl rfl rfl (eZ (ds:=[]) tok a (σ':=aa _) rfl aq),aq⟩ ?_
 intro D d;show AK X _ _ _ _ _ (YJ w (D 2) (D 5) (D 8) (D 10));rw[d 2 (by decide),d 5 (by decide),d 8 (by decide),d 10 (by decide)];refine Ug a [] 1 rfl aq ?_;refine AK.rM 3 rfl rfl rfl (by simp) (by simp) ?_;refine AK.norm [n9 w,.cells 30 [.bp 2 (.sl w.1.1.length 2 0 w.1.1.length),kn cX w.1.2.1,kn cH w.1.2.2,kn cI w.2.1,.bp 4 (.sl w.2.2.length 1 0 w.2.2.length)],.buf 39 2 w.1.1.length (cP.fn w.1.1),.dead,xz w.2.2.length w.2.2] rfl ?_ ?_
 .simp[cI.list_fn,qK]
 refine AK.kV () [2,4] rfl rfl rfl rfl rfl rfl rfl rfl ?_ rfl rfl rfl rfl (λj f=>absurd f (by simp));simp
abbrev LM:bm:=.cells 30 l6
abbrev LN(n m:Nat)(a:List cW)(b:List (Int×Int))(ms lf:List Int):bm:=.cells 30 [.bp 2 (.sl n 2 0 m),kn cX a,kn cH b,kn cI ms,.bp 3 (.sl lf.length 1 0 lf.length)]
abbrev Xs(l:List bo)(m i:Nat)(ms:List Int)(k:Nat):D :=
 [.e (.one (.ptr 4 0)),.e (.one (.ptr 4 0)),.e (.one (.ptr 4 0)),.e (.one (.ptr 4 0)),.e (.one (.bp 2 (.sl l.length 2 0 m))),dI i,.e (.one (.bp 2 (.el l.length 2 (0+(i:Int).toNat) 0))),qo (vi l i),
  .e (.one (.ptr 4 0)),.e (.one (.ptr 4 0)),.e (.one (.ptr 4 3)),cI.sl ms,qo (ck (vi l i) ms),.e (.one (.ptr 6 0)),.any].getD k .any
abbrev UA(w:br)(l:List bo)(m i:Nat)(d:List cW)(e:List (Int×Int))(ms lf:List Int)(a b:Bool):List bm :=
 match a,b with
 |false,_=>[n9 w,LM,H4 l,xz lf.length lf,LN l.length m d e ms lf,.dead]
 |true,ae=>[n9 w,LM,H4 l,xz lf.length lf,LN l.length m d e ms lf,.dead,.cells 39 [.c (.int .i64 0),iN]]
 |true,ab=>[n9 w,LM,H4 l,xz lf.length lf,LN l.length m d e ms lf,.dead,Vf l i ms]
set_option maxRecDepth 20000 in
def Da(w:br)(no:Int)(l:List bo)(m i:Nat)(g:List cW)(h:List (Int×Int))(ms lf:List Int)(k:m<=l.length)(o:l.length<=4000000)(hi:i<m)(q:n6 (λp:bo=>p.1==no) (l.take m)=i)(b:∀p∈l,p.2.length<=4000000):
  dW (ι:={es:Nat->List C // cq l.length es (cP.fn (iD ms l m i).1)}) X 26 [.e (.one (.ptr 4 0)),dI no] [n9 w,LM,H4 l,xz lf.length lf,LN l.length m g h ms lf] (λ_=>.fK []) (λes=>[n9 w,LM,.buf 39 2 l.length es.1,xz lf.length lf,LN l.length (iD ms l m i).2 g h ms lf,.dead,Vf l i ms]):=by
 refine dW.DT Tryz.func26 rfl rfl rfl (AK.of_code ?_);refine bE [(1000001,ab)] rfl aq ?_;refine AK.freeze 3 5 rfl rfl rfl ?_;refine c6 rfl aq ?_;refine AK.cQ (Db l m k o 58 [.int .i64 no] (λp=>p.1==no) λp _=>Dc p no) [2] rfl ?_;rw[q];have f:vi l i=l.getD i (0,[]):=by simp;rfl
 have c:vi l i∈l:=by rw[f];grind
 have a:bR X [(11,mH [qo (vi l i),cI.sl ms] (qo (ck (vi l i) ms)))]:=.cons (nZ (xC (vi l i) ms (b _ c))) .nil;have ho:0<=(i:Int)/\(i:Int)<((m:Nat):Int):=by omega
 have j:l.length=l.length/\0+(i:Int).toNat<l.length:=⟨rfl,by omega⟩
 refine bE [(1000002,ab)] rfl aq ?_;refine AK.flags fC (Xs l m i ms) (tT (UA w l m i g h ms lf) 13 14) rfl rfl rfl rfl
  ⟨.s9 tok a,.s9 tok a,.s9 tok a,.s9 tok a,.s9 tok a,.s9 tok a,.M3 tok a (ho:=by exact ho),.M3 tok a (ho:=by exact j),.s9 tok a,.s9 tok a,.s9 tok a,.s9 tok a,.M3 tok a (ho:=by exact rfl),
   e9.sA rfl rfl (eZ (ds:=[]) tok a (σ':=aa _) rfl aq),e9.sB rfl rfl (eZ (ds:=[]) tok a (σ':=aa _) rfl aq),aq⟩ ?_
 intro D n;show AK X _ _ _ _ _ (UA w l m i g h ms lf (D 13) (D 14));rw[n 13 (by decide),n 14 (by decide)];unfold iD;by_cases d:(ck (vi l i) ms).2.length=0
 .rw[bc (by rw[<-f];exact d)];refine bE [(29,ab)] rfl ?_ ?_
  .simp only[ar,bt,d];exact⟨by omega,rfl⟩
  refine AK.cQ (Dd l m i k hi o) [2] rfl ?_;refine c6 rfl aq ?_;exact⟨⟨_,cq.same⟩,.inr rfl,rfl,rfl,_,_,_,rfl,rfl,rfl,aq⟩
 .rw[aW (by rw[<-f];exact d)];refine bE [(29,ae)] rfl ?_ ?_
  .simp only[ar];exact⟨aq,by omega,by omega,by omega,by simpa using d⟩
  refine⟨⟨mZ (0+(i:Int).toNat) [.int .i64 (vi l i).1,sP (ck (vi l i) ms)] (cP.fn l),?_⟩,.inr rfl,rfl,rfl,_,_,_,rfl,rfl,rfl,aq⟩;have:=cP.Eu l i (ck (vi l i) ms) l.length (ba _);rw[f]at *;rw[show 0+(i:Int).toNat=i by omega];exact this
def Om(a:Int)(r:List Int)(n:r.length<=4000000):
  Ev X 27 [.e (.one (.bp 0 (.sl (a::r).length 1 0 (a::r).length))),dI 0,dI 1] [xz (a::r).length (a::r)] (.e (.one (.bp 0 (.sl (a::r).length 1 0 r.length)))) [xz (a::r).length (r++[0])]:=by
 refine Ev.bQ Tryz.func27 rfl λm=>?_;refine bE [(16,ae),(1000006,ab)] rfl ?_ ?_
 .simp[cr];omega
 have k:cr (a::r).length (aa 0)-cr 0 af+(cr (a::r).length af-cr 0 (aa 1))=r.length:=by simp[cr]
 rw[k];refine AK.region ?_;refine BU [] 4 rfl aq ?_;refine AK.law (bF.FX tok rfl rfl rfl rfl rfl rfl rfl rfl rfl (by omega) (by simp<;>omega) (by simp<;>omega)) rfl rfl ?_;refine AK.law (bF.Dz tok rfl rfl rfl rfl rfl rfl ?_) rfl rfl ?_
 .simp only[cr,bD,en];omega
 refine bE [(1000007,ab)] rfl aq ?_;refine AK.Ov 0 (cI.fn (r++[0])) rfl (λ_ _=>rfl) (λM idx ia j b g=>?_) ?_
 .refine⟨b,?_,λ_ h=>h⟩;rw[<-g];congr 1;unfold nQ zg;simp only[en]at ia;have l:cr (r.length+1) (aa 0)-cr 0 af=0:=rfl;have f:cr 0 (aa 1)=1:=rfl;have c:cr (r.length+1) af=r.length+1:=rfl;simp only[en,bD,l,f,c];have d:cI.fn (r++[0]) idx=cI.enc ((r++[0]).getD idx 0):=rfl;rw[d];by_cases h:idx<r.length
  .have e:(r++[0]).getD idx 0=r.getD idx 0:=by simp[za,h]
   have i:cI.fn (a::r) (0+1+(idx-0))=cI.enc (r.getD idx 0):=by rw[show 0+1+(idx-0)=idx+1 by omega];rfl
   rw[aW (by omega),bc (by omega),e,<-i]
  .obtain rfl:idx=r.length:=by omega
   have e:(r++[0]).getD r.length 0=0:=by simp
   rw[bc (by omega),e];rfl
 refine c6 rfl aq (AK.dY [0] rfl ?_ rfl rfl rfl nY);simp;rfl
end
def stepW(k:Int)(w:br):br×Bool:=if dz k w=ab then(eC w,x4 w)else(EX,ae)
def mM(k:Int)(w:br)(a:Uc w)(c:gF w.1):Ev (Cx.beside ag) 8 [dI k,nu w] [] (RN (stepW k w).1 (stepW k w).2) []:=by
 refine Ev.kW tok Tryz.func8 rfl rfl rfl λz=>?_;have n:bR (Cx.beside ag) [(21,qe)]:=.cons tv .nil;have y:=c.p;have m:=a.R9;unfold stepW;cases d:dz k w with
 |false =>
  refine aZ n [(10,ab)] rfl ?_ ?_
  .simp only[ar,cP.list_fn,cP.au,cX.list_fn,cX.au,cH.list_fn,cH.au,cI.list_fn,cI.au,d,a,aC,aB,fE]
  refine AK.yp () [] rfl rfl rfl rfl rfl rfl rfl rfl rfl ?_ rfl rfl rfl rfl jF;simp
 |true =>
 rw[bc rfl];have o:=gf.1 d;refine aZ n [(10,ae)] rfl ?_ ?_
 .simp only[ar,cP.list_fn,cP.au,cX.list_fn,cX.au,cH.list_fn,cH.au,cI.list_fn,cI.au,d,a,aC,aB,er]
 refine AK.cQ (C9 w c a.W7 a.R9) [] rfl ?_;obtain⟨st,ms,s⟩:=w;cases s with
 |nil =>
  have e:(eC (st,ms,[]),x4 (st,ms,[]))=((st,ms,[]),ae):=rfl;rw[e];refine bE [(17,ab)] rfl ?_ ?_
  .simp
  refine AK.rM 2 rfl rfl rfl (by simp) (by simp) ?_;refine AK.rM 3 rfl rfl rfl (by simp) (by simp) ?_;refine AK.yp () [] rfl rfl rfl rfl rfl rfl rfl rfl rfl ?_ rfl rfl rfl rfl jF;simp[qK]
 |cons no r =>
  have t:LO (st,ms,no::r) st.1.length 0 st.1 st.1.length:=⟨j9 _,rfl,ba _,by simp[kK],c.p2⟩
  obtain⟨i,hi,u,f⟩:=t.next o (by simp);have h:r.length<=4000000:=by have:r.length+1<=4000000:=m;omega
  refine bE [(17,ae)] rfl ?_ ?_
  .simp<;>omega
  refine AK.Fb (Da (st,ms,no::r) no st.1 st.1.length i st.2.1 st.2.2 ms (no::r) (ba _) y hi u c.p2) rfl rfl rfl rfl ?_ rfl ?_
  .simp
  rintro⟨es,g⟩;refine c6 rfl aq ?_;refine AK.cQ (Om no r h) [3] rfl ?_;refine c6 rfl aq ?_;have x:(iD ms st.1 st.1.length i).1.length=st.1.length:=f.len;have b:(iD ms st.1 st.1.length i).2<=st.1.length:=f.hm;have v:(eC (st,ms,no::r)).1.1=(iD ms st.1 st.1.length i).1.take (iD ms st.1 st.1.length i).2:=f.now.symm;refine AK.rM 2 rfl rfl rfl ?_ ?_ ?_
  .simp;exact b
  .simp;exact b
  refine AK.rM 3 rfl rfl rfl (by simp) (by simp) ?_;refine AK.yp () [] rfl rfl rfl rfl rfl rfl rfl rfl rfl ?_ rfl rfl rfl rfl jF;generalize iD ms st.1 st.1.length i=q at *;simp only[ar.cat,ar,v,aC,aB];and_intros<;>first|exact cq.same|rfl|(simp;omega;done)|skip
  .intro j l;have:=g j (by omega);simp only[qK,this,iT.fn,xS,ah,eK,l,bY]
  .intro j l;show cI.enc ((r++[0]).getD j 0)=cI.enc (r.getD j 0);simp[za,l]
end R1
section
namespace R1
variable {X:Cx ag}[X.jw]
abbrev X2(s:bw):Nat->List C:=k9 (cr 0 af) (cP.fn s.1)
abbrev Dm(s:bw)(i:Nat):Nat->List C:=k9 (cr 0 (aa ((i:Int)+1))) (cP.fn s.1)
end R1
end
namespace R1
section
variable {X:Cx ag}
def lV(w:br)(b:gF w.1):Ev X 9 [nu w,nu w] [] (dB ab) []:=by refine Ev.bQ Tryz.func9 rfl λc=>?_;have a:bR X [(18,mH [l4 w.1,l4 w.1] (dB ab)),(13,NG)]:=.cons (nZ (n7 w.1 b)) (.cons Q2 .nil);refine aZ a [(10,ab),(17,ab)] rfl ?_ (AK.bq rfl);simp[cI.au];exact⟨rfl,rfl,rfl⟩
end
def yW:∀{l:List cW}{x:cW},(l.Pairwise λa b=>a.1<b.1)->x∈l->l.find? (λy=>y.1==x.1)=aa x
 |y::l,x,h,c=>by
  obtain⟨e,d⟩:=qD.1 h;rw[List.find?_cons];rcases eY.1 c with rfl|c
  .simp
  .have:=e x c;rw[show(y.1==x.1)=ae by simp;omega];exact yW d c
def Dk.sz{w:br}(h:Dk w):EY w:=⟨h.s.Gn,h.s.Sa.toPb,by have:=h.m;omega,by have:=h.l;omega⟩
def Dk.Sd{w:br}(h:Dk w):Uc w:={toPc:=h.s.Sa,W7:=h.sz.n,R9:=h.sz.l}
def Dk.step{w:br}(h:Dk w):Dk (eC w):=by
 unfold eC;split
 .exact h
 .rename_i no r hl;refine⟨h.s.step _ _,h.m,?_⟩;have:=h.l;grind
section
variable {X:Cx ag}
def De(k:Int)(w:br)(b:EY w):Ev X 7 [dI k,nu w] [] (RN (stepW k w).1 (stepW k w).2) []:=by
 refine Ev.mb Tryz.func7 rfl rfl rfl λf=>?_;have c:bR X [(10,gR),(24,mH [nu w] (RN (eC w) (x4 w)))]:=.cons iz (.cons (nZ (yV w b.s b.n b.l)) .nil);have e:=b.m;have a:(w.1,w.2.1,w.2.2)=w:=rfl;unfold stepW;cases d:dz k w with
 |false =>
  refine aZ c [(9,ab)] rfl ?_ ?_
  .simp only[ar,cP.list_fn,cP.au,cX.list_fn,cX.au,cH.list_fn,cH.au,cI.list_fn,cI.au,a,d,e,fE,aC,aB]
  refine AK.freeze 4 1 rfl rfl rfl ?_;exact AK.lD tok [] rfl (by simp) rfl rfl rfl jF
 |true =>
  refine aZ c [(9,ae)] rfl ?_ ?_
  .simp only[ar,cP.list_fn,cP.au,cX.list_fn,cX.au,cH.list_fn,cH.au,cI.list_fn,cI.au,a,d,e,er,aC,aB]
  refine AK.freeze 4 1 rfl rfl rfl ?_;exact AK.lD tok [] rfl (by simp) rfl rfl rfl jF
end
def H5{k:Int}{w:br}(h:mK k w){y:cW}(a:y∈w.1.2.1):eU k (eC w).1 y.1=eU k w.1 y.1:=by
 unfold eC;split
 .rfl
 .rename_i no r d;have c:w.1.2.1.find? (λx=>x.1==y.1)=aa y:=yW h.sa a;simp only[eU,c];exact pq λn b=>q8 (h.mk' y a n b) _
def uC(m:Nat)(b:Nat->Int)(v:Bytes b)(_:m<=9223372036854775807):Ev (Cx.beside ag) 5 [.e (.one (.c (.sl ae 1 m (uz b))))] [] (dB ab) []:=by
 refine Ev.bQ Tryz.func5 rfl λA=>?_;by_cases z:1048576<m
 .refine aY [(11,ab)] rfl (by simp;omega) (AK.bq rfl ?_);simp
 refine aY [(11,ae)] rfl (by simp;omega) ?_;refine AK.cP (uj m b v (by omega)) [] rfl (λ_=>rfl) ?_;rintro⟨w,r⟩;have l:=r.sz;have g:=l.m;have k:(w.1,w.2.1,w.2.2)=w:=rfl;have i:=De (X:=Cx.beside ag) 7 w l;have j:=mM 7 w r.Sd l.s;unfold stepW at i j;refine bA rfl aq ?_;cases f:dz 7 w with
 |false =>
  rw[f,aW (by simp)]at i j;refine AK.cQ i [] rfl ?_;refine bA rfl aq ?_;refine AK.cQ j [] rfl ?_;have c1:bR (Cx.beside ag) [(9,mH [nu EX,nu EX] (dB ab)),(10,gR)]:=.cons (nZ (lV EX ⟨by simp,by simp,by simp,λx h=>absurd h (by simp),by simp⟩)) (.cons iz .nil);refine aZ c1 [(32,ae),(38,ae),(43,ab),(47,ab)] rfl ?_ (AK.bq rfl ?_)
  .simp only[ar,cP.list_fn,cP.au,cX.list_fn,cX.au,cH.list_fn,cH.au,cI.list_fn,cI.au,k,f,g,fE,aC,aB];simp
  .simp
 |true =>
  have t:=gf.1 f;rw[f,bc rfl]at i j;refine AK.cQ i [] rfl ?_;refine bA rfl aq ?_;refine AK.cQ j [] rfl ?_;have d:=r.step;have n:=gf.2 t.step;have p:=ER 7 w.1 (eC w).1 l.s.s2 d.sz.s.s2 l.s.sn λy u=>H5 t u;have o:(eC w).1.2.1.length=w.1.2.1.length:=by unfold eC;split<;>rfl
  have q:=d.Sd;generalize eC w=w2 at *;have a:(w2.1,w2.2.1,w2.2.2)=w2:=rfl;have c1:bR (Cx.beside ag) [(9,mH [nu w2,nu w2] (dB ab)),(10,gR),(20,mH [dI 7,l4 w.1,l4 w2.1] (dB ab)),(21,qe)]:=.cons (nZ (lV w2 d.sz.s)) (.cons iz (.cons (nZ p) (.cons tv .nil)));refine aZ c1 [(32,ae),(38,ae),(43,ae),(58,ab),(69,ab)] rfl ?_ (AK.bq rfl ?_)
  .simp only[ar,cP.list_fn,cP.au,cX.list_fn,cX.au,cH.list_fn,cH.au,cI.list_fn,cI.au,k,a,f,n,g,q,er,aC,aB];and_intros<;>first|rfl|(simp[o];done)
  .simp only[ar,cP.list_fn,cX.list_fn,cH.list_fn,cI.list_fn,a,n]
end R1
end Go.AM
