/- Part 6. No condition. -/
import Derived.Test.YtpddeenenibhjaaGreatDoorA5
set_option linter.all false
set_option maxHeartbeats 8000000
open Go.Proofs
open Go renaming Value → aj, TypeId → aw, Frame → aV, Operand → aC, World → aA, Program → aO, Oper → aB, Goroutine → aq
open Option renaming some → aa, none → af
open Bool renaming true → ab, false → ae
open List renaming getD_eq_getElem?_getD → ai
open Nat renaming beq → av
open Go.Proofs.Tryz renaming prog → ag
namespace Go.AM
variable {n k l b i j:Nat}{E:aw}{H:aj->(Nat->Option Obj)->Prop}{L:Array Bool}{M:Mem}{N:Nat}{P:aO}{S:aq->St->Prop}{c:Code}{g:aq}{o:aB}{s:St}{t:aw}{v:aj}{w:aA}{x y:aC}{α:Type}{η:aC->D}{ι:Type}{σ:List bm}{φ:Fr}{all:List aB}{jP:Array aw}{cap:List C}{cu:List D}{cs:List aV}{ds:List (Nat×Bool)}{es:Nat->List C}{fo:aC}{gs:Array aq}{obs:List Prop}{off:Nat}{op:BinOp}{ops:Array aB}{ps:List Prop}{rest:List aB}{s':St}{ty:aw}{val:Nat->Nat->aj}{vs:List aj}{w':aA}{xs:Array aC}{σ' σs:List bm}{res:ι->D}{σ1:ι->List bm}
variable {CT:List (Nat×dz)}{K:List It}{Qf:Post}{T:List (Nat×TI)}{ie:TI}
namespace R1
section
variable {X:Cx ag}
def lx(n:Int):∀(l a:List Int)(b:Bool),(a++l).Pairwise (· < ·)->(if b=ab then True else ∀x∈a,x<n)->(b=ab->∀x∈l,n<=x/\(n∈a)) ->
  (if(l.foldl (gu n) (a,b)).2=ab then(l.foldl (gu n) (a,b)).1 else(l.foldl (gu n) (a,b)).1++[n]).Pairwise (· < ·)
 |[],a,b,h,f,_=>by
  simp only[kK]at h;cases b<;>simp at f⊢
  .exact pP.2 ⟨h,by simp,by simpa using f⟩
  .exact h
 |y::l,a,b,h,f,i=>by
  rw[iH];obtain⟨j,q2,g⟩:=pP.1 h;obtain⟨p4,k⟩:=lz.1 q2;have m:∀x∈a,x<y:=λx c=>g x c y iG;have p2:((a++[y])++l).Pairwise (· < ·):=by simpa using h
  have p3:(a++l).Pairwise (· < ·):=pP.2 ⟨j,k,λx c z d=>g x c z (kI _ d)⟩;unfold gu;cases b with
  |true =>
   simp only[bY];split
   .exact lx n l a ab p3 (by simp) λ_ x c=>⟨by grind,(i rfl y iG).2⟩
   .exact lx n l (a++[y]) ab p2 (by simp) λ_ x c=>⟨by grind,List.mem_append_left _ (i rfl y iG).2⟩
  |false =>
   simp only[gO,bS]at f⊢;split
   .split
    .rename_i e;subst e;exact lx y l (a++[y]) ab p2 (by simp) λ_ x c=>⟨by grind,by simp⟩
    .refine lx n l (a++[n,y]) ab ?_ (by simp) λ_ x c=>⟨by grind,by simp⟩
     rw[jV];refine pP.2 ⟨j,lz.2 ⟨λz d=>?_,q2⟩,λx c z d=>?_⟩
     .rcases dC.1 d with rfl|d
      .omega
      .have:=p4 z d;omega
     .rcases dC.1 d with rfl|d
      .exact f x c
      .exact g x c z d
   .exact lx n l (a++[y]) ae p2 (by simp;grind) (by simp)
def Mk{l:List Int}{n:Int}(h:l.Pairwise (· < ·)):(lg l n).Pairwise (· < ·):=lx n l [] ae (by simpa using h) (by simp) (by simp)
def zi:∀{l a:List Int},a.Pairwise (· < ·)->(l.foldl lg a).Pairwise (· < ·)
 |[],a,h=>h
 |x::l,a,h=>zi (l:=l) (Mk h)
def qA(l:List cg):(cy l).Pairwise (· < ·):=by
 unfold cy;have:∀(l:List cg) (a:List Int),a.Pairwise (· < ·)->(l.foldl (λout x=>(gj x.2).foldl lg out) a).Pairwise (· < ·):=λl=>by
  induction l with
  |nil=>exactλa h=>h
  |cons x l b=>exactλa h=>b _ (zi h)
 exact this l [] List.Pairwise.nil
def xM(l:List cg):(l.flatMap c6).length<=(gv l).length:=by
 induction l with
 |nil=>simp
 |cons x l a =>
  have:(c6 x).length<=(b5 x.2).length:=by unfold c6;rw[<-ft (b5 x.2)];exact od _
  simp only[gv,l7,cf]at a⊢;omega
def rz(l:List Int)(v:Int):Int:=match l.findIdx? (λx=>x==v)with
 |some i=>i
 |none=>-1
def Ig(l:List Int)(v:Int):Ev X 66 [cI.sl l,dI v] [] (dI (rz l v)) []:=by
 refine Ev.bQ Tryz.func66 rfl λd=>?_;have f:=d.sl 0 rfl;refine bw rfl ar ?_;refine AK.bX 0 (λi=>i<=l.length/\∀j,j<i->l.getD j 0≠v) (λi:Nat=>[(0,cI.sl l),(1,dI v),(7,dI l.length),(8,dI i)]) (λ_=>[]) (λi=>l.length-i) 0 rfl (by simp) rfl ar rfl ⟨by omega,by omega⟩ ?_;rintro i ⟨hi,a⟩;by_cases h:i<l.length
 .have b:l.getD (i:Int).toNat cI.bP=l.getD i 0:=rfl;by_cases e:l.getD i 0=v
  .have:rz l v=i:=by
    have:l.findIdx? (λx=>x==v)=aa i:=by rw[oP];exact⟨h,by grind,λj c=>by grind⟩
    simp only[rz,this]
   rw[this];refine aX [(9,ab),(16,ab)] rfl ?_ (AK.eY (ck.zero rfl));simp only[au,b,bq,gy,aF,aE];and_intros<;>first|exact e.symm|omega
  .refine aX [(9,ab),(16,ae)] rfl ?_ (AK.aQ (i+1) rfl ?_ ar ⟨h,λj c=>?_⟩ (by omega))
   .simp only[au,b,bx,bq,eW,aF,aE];and_intros<;>first|grind|omega
   .simp
   grind
 .have:rz l v=-1:=by
   have:l.findIdx? (λx=>x==v)=af:=by grind[List.getElem_of_mem]
   simp only[rz,this]
  rw[this];refine aX [(9,ae)] rfl (by simp only[au,cd];omega) (AK.leaveD rfl rfl ?_);exact bw rfl ar (AK.bn rfl)
abbrev Bd:dz:=n6 (aL cI) aI (λl v=>dB (l.contains v)) λ_ _=>[]
def GG:dK X 31 Bd:=.qK λl v _=>by refine Ev.bQ Tryz.func31 rfl λb=>?_;have a:bG X [(66,n6 (aL cI) aI (λl v=>dI (rz l v)) λ_ _=>[])]:=.cons (.qK λl v _=>Ig l v) .nil;refine bZ a rfl (by simp only[au];exact cI.aJ _) (AK.bn rfl ?_);simp only[au,cI.list_fn,aE];unfold rz;grind
def O7(x:cg)(keep:List Int):Ev X 30 [Cl x,.e (.one (.c (.rp [.sl ae 1 keep.length (cI.fn keep)])))] [] (dB (!keep.contains x.1)) []:=by refine Ev.bQ Tryz.func30 rfl λb=>?_;have a:bG X [(31,Bd)]:=.cons GG .nil;refine bZ a rfl (by simp only[au];exact cI.aJ _) (AK.bn rfl ?_);simp only[cI.list_fn];simp
abbrev Vm(s:bo)(fl:List cg)(ms:A)(l:List Int)(b:aj)(a:List Int):List bm:=[sv s,.dead,.cells 32 Md,.dead,.dead,.cells 32 [qD cP s.1,qD ee fl,qD cH s.2.2,ms,.vec 6 1 l.length (cI.fn l)],.vec 3 1 l.length (cI.fn l),oO b a]
def nB(k:Int)(s:bo)(keep:List Int)(c:iS s)(q:EU s):Ev (Cx.beside ag) 10 [dI k,nc s,cI.sl keep] [] (Zy (yj k s keep).1 (yj k s keep).2) []:=by
 refine Ev.oz Tryz.func10 rfl rfl rfl λC=>?_;have b:bG (Cx.beside ag) [(20,qx)]:=.cons tF .nil;have D:=c.p;have A:=c.sn;unfold yj;cases v:fp k s with
 |false =>
  refine AK.dk dn eF b [(17,ab)] 200 rfl ?_ ?_
  .simp only[au,cP.list_fn,cP.aJ,ee.list_fn,ee.aJ,cH.list_fn,cH.aJ,v,q,aF,aE,kX]
  refine AK.freeze 6 2 rfl rfl rfl ?_;refine AK.zR eF [] rfl ?_ rfl rfl rfl uD;simp
 |true =>
 rw[br rfl];refine AK.dk dn eF b [(17,ae)] 200 rfl ?_ ?_
 .simp only[au,cP.list_fn,cP.aJ,ee.list_fn,ee.aJ,cH.list_fn,cH.aJ,v,q,aF,aE,kL]
 refine AK.cQ (px s c.p c.p2 c.sn c.s2 c.h) [] rfl ?_;refine AK.dk dn eF b [(1000004,ab)] 200 rfl ar ?_;refine AK.freeze 5 1 rfl rfl rfl ?_;refine AK.dk dn eF b [] 200 rfl ar ?_;refine AK.cP (Oa s.2.1 c.sn 30 [.sl ae 1 keep.length (cI.fn keep)] (λx=>!keep.contains x.1) λx _=>O7 x keep) [4] rfl (λ_=>rfl) ?_;rintro⟨es,o⟩;simp only[Bool.not_not]at o⊢;have j:(s.2.1.filter λx=>keep.contains x.1).length<=s.2.1.length:=kH _ _;have m:∀x∈s.2.1.filter (λx=>keep.contains x.1),x∈s.2.1:=λx l=>(hZ.1 l).1;have y:(gv (s.2.1.filter λx=>keep.contains x.1)).length<=(gv s.2.1).length:=ll s.2.1 λx=>keep.contains x.1;generalize s.2.1.filter (λx=>keep.contains x.1)=fl at *;refine AK.dk dn eF b [(1000005,ab)] 200 rfl ar ?_;refine AK.rT 4 rfl rfl rfl (by simp;exact j) (by simp;exact⟨ar,j⟩) ?_;refine AK.rT 3 rfl rfl rfl (by simp) (by simp;exact ar) ?_;refine AK.gd 5 4 3 1 (cI.fn []) rfl rfl ?_;refine AK.norm [sv s,.dead,.cells 32 Md,.dead,.dead,.cells 32 [qD cP s.1,qD ee fl,qD cH s.2.2,hO,.vec 6 1 0 (cI.fn [])],.vec 3 1 0 (cI.fn [])] rfl ?_ ?_
 .simp only[au.cat,au,aF,aE];and_intros<;>first|exact cw.same|exactλi hi=>o i hi|rfl|simp
 refine AK.dk dn eF b [] 200 rfl ar ?_;refine AK.KX rfl rfl rfl λr=>?_;refine AK.dk dn eF b [] 200 rfl ar ?_;refine AK.bX 8 (λi=>i<=fl.length) (λi:Nat=>[(4,.e (.one (.ptr 0 0))),(6,.e (.one (.ptr 2 0))),(8,.e (.one (.ptr 5 0))),(9,P2 r),(32,ee.sl fl),(33,dI fl.length),(34,dI i)])
  (λi=>Vm s fl hO [] r ((fl.take i).flatMap c6)) (λi=>fl.length-i) 0 rfl (by simp) rfl (by simp) rfl (by omega) ?_
 .intro i hi;by_cases h:i<fl.length
  .have t:fl.getD i ee.bP=fl.getD i (0,[]):=rfl;have l:=q.sm _ (m _ (gM (d:=(0,[])) h));have z:=tG h;have u:=q.aN;have g:(fl.take (i+1)).flatMap c6=(fl.take i).flatMap c6++c6 (fl.getD i (0,[])):=by rw[bu h (0,[])];simp
   generalize fl.getD i (0,[])=x at *;refine AK.dk dn eF b [(35,ab)] 200 rfl (by simp;omega) ?_;simp only[bM,t];refine AK.cQ (xr x l.1 (by omega)) [] rfl ?_;refine AK.dk dn eF b [] 200 rfl ar ?_;refine AK.cQ (Lf r ((fl.take i).flatMap c6) (c6 x)) [7] rfl ?_;rw[<-g];refine AK.dk dn eF b [] 200 rfl ?_ (AK.aQ (i+1) rfl (by simp) (by simp) h (by omega));simp[bx];omega
  obtain rfl:i=fl.length:=by omega
  rw[cC];have w:=xM fl;have u:=q.aN;refine AK.dk dn eF b [(35,ae)] 200 rfl (by simp) (AK.leaveD rfl rfl ?_);refine AK.dk dn eF b [] 200 rfl ar ?_;refine AK.cQ (Mh r (fl.flatMap c6) (cy fl) (by omega) (qA fl) λn=>by rw[iC];simp[oh]) [7] rfl ?_;refine AK.dk dn eF b [] 200 rfl ar ?_;refine AK.bX 8 (λi=>i<=s.1.length) (λi:Nat=>[(4,.e (.one (.ptr 0 0))),(6,.e (.one (.ptr 2 0))),(8,.e (.one (.ptr 5 0))),(47,cP.sl s.1),(48,dI s.1.length),(49,dI i)])
   (λi=>Vm s fl (qD cI (cy fl)) ((s.1.take i).map (·.1)) r (fl.flatMap c6)) (λi=>s.1.length-i) 0 rfl (by simp) rfl (by simp) rfl (by omega) ?_
  intro i hi;have B:((s.1.take i).map (·.1)).length=i:=by simp;omega
  by_cases h:i<s.1.length
  .have t:s.1.getD i cP.bP=s.1.getD i (0,[]):=rfl;have g:=map_take (f:=λp:bc=>p.1) h (0,[]);generalize(s.1.take i).map (λp:bc=>p.1)=a at *;generalize s.1.getD i (0,[])=p at *;have l:=cI.cp a p.1;refine AK.dk dn eF b [(50,ab)] 200 rfl ?_ (AK.aQ (i+1) rfl (by simp) ?_ h (by omega))
   .simp[-ai,t,h,bx,show i3.bytes=8 from rfl];omega
   .rw[g];simp only[au.cat,au,bM,t,cf,ey,aF,aE];and_intros<;>first|exact cw.same|exact l|rfl|omega
  obtain rfl:i=s.1.length:=by omega
  rw[cC];refine AK.dk dn eF b [(50,ae)] 200 rfl (by simp) (AK.leaveD rfl rfl ?_);refine AK.dk dn eF b [] 200 rfl ar ?_;refine AK.freeze 8 5 rfl rfl rfl ?_;refine AK.freeze 6 2 rfl rfl rfl ?_;refine AK.zR eF [] rfl ?_ rfl rfl rfl uD;simp[ee.list_fn]
end
section
variable {X:Cx ag}
def Ml(p:bc)(ns:List Int)(g:p.2.length<=4000000):Ev X 77 [xP p,cI.sl ns] [] (xP (cA p ns)) []:=by
 refine Ev.wB tok Tryz.func77 rfl rfl rfl λm=>?_;have b:bG X [(31,Bd)]:=.cons GG .nil;refine bt b [(1000002,ab)] rfl ar ?_;refine AK.gd 2 1 68 2 (et.fn []) rfl rfl ?_;refine bZ b rfl ar ?_;refine AK.bX 4 (λi=>i<=p.2.length) (λi:Nat=>[(1,cI.sl ns),(4,.e (.one (.ptr 1 0))),(5,.e (.one (.ptr 2 0))),(12,et.sl p.2),(13,dI p.2.length),(14,dI i)])
  (λi=>Yb p ((p.2.take i).filter λx=>ns.contains x.1)) (λi=>p.2.length-i) 0 rfl (by simp) rfl (by simp) rfl (by omega) ?_
 intro i hi;have l:=filter_le p.2 (λx=>ns.contains x.1) hi;by_cases h:i<p.2.length
 .have f:p.2.getD i et.bP=fU p i:=rfl;have d:(p.2.take (i+1)).filter (λx=>ns.contains x.1)=if ns.contains (fU p i).1=ab then(p.2.take i).filter (λx=>ns.contains x.1)++[fU p i]else(p.2.take i).filter (λx=>ns.contains x.1):=xK h (0,[]);generalize(p.2.take i).filter (λx=>ns.contains x.1)=a at *;generalize fU p i=x at *;cases c:ns.contains x.1 with
  |true =>
   rw[br c]at d;have g:=et.cp a x;refine bt b [(15,ab),(21,ab)] rfl ?_ (AK.aQ (i+1) rfl (by simp) ?_ h (by omega))
   .simp[-ai,-List.contains_eq_mem,f,h,c,cI.list_fn,cI.aJ,bx,show i68.bytes=24 from rfl];omega
   .rw[d];simp only[au.cat,au,bM,f,cf,ey,aF,aE];and_intros<;>first|exact cw.same|exact g|rfl|omega
  |false =>
   rw[a9 (by rw[c];simp)]at d;refine bt b [(15,ab),(21,ae)] rfl ?_ (AK.aQ (i+1) rfl (by simp) ?_ h (by omega))
   .simp[-ai,-List.contains_eq_mem,f,h,c,cI.list_fn,cI.aJ,bx];omega
   .rw[d];simp
 obtain rfl:i=p.2.length:=by omega
 rw[cC];refine aR b [(15,ae)] rfl (by simp) (AK.leaveD rfl rfl ?_);refine bZ b rfl ar ?_;refine AK.lO () [] rfl rfl rfl rfl rfl rfl rfl rfl ?_ rfl rfl rfl rfl (λj k=>absurd k (by simp));simp[cA]
abbrev Zz(w:dN)(a b:Bool):List bm :=
 match a,b with
 |false,_=>[Dw w,.cells 32 Md]
 |true,ae=>[Dw w,.cells 32 Md,.buf 43 2 w.1.1.length (cP.fn w.1.1),.buf 39 2 w.1.2.1.length (ee.fn w.1.2.1)]
 |true,ab=>[Dw w,.cells 32 [.bp 2 (.sl w.1.1.length 2 0 w.1.1.length),.bp 3 (.sl w.1.2.1.length 2 0 w.1.2.1.length),qD cH w.1.2.2,qD cI (cI.list w.2.1.length (cI.fn w.2.1)),qD cI (cI.list w.2.2.length (cI.fn w.2.2))],.buf 43 2 w.1.1.length (cP.fn w.1.1),.buf 39 2 w.1.2.1.length (ee.fn w.1.2.1)]
abbrev xCl(w:dN)(i:Nat):D :=
 [.e (.one (.ptr 0 0)),nc w.1,.e (.agg [.bp 2 (.sl w.1.1.length 2 0 w.1.1.length),.bp 3 (.sl w.1.2.1.length 2 0 w.1.2.1.length),qD cH w.1.2.2]),.e (.one (.ptr 0 3)),cI.sl w.2.1,cI.sl (cI.list w.2.1.length (cI.fn w.2.1)),.e (.one (.ptr 0 4)),cI.sl w.2.2,cI.sl (cI.list w.2.2.length (cI.fn w.2.2)),
  .e (.agg [.bp 2 (.sl w.1.1.length 2 0 w.1.1.length),.bp 3 (.sl w.1.2.1.length 2 0 w.1.2.1.length),qD cH w.1.2.2,qD cI (cI.list w.2.1.length (cI.fn w.2.1)),qD cI (cI.list w.2.2.length (cI.fn w.2.2))]),.any].getD i .any
def Fh(w:dN)(b:iS w.1)(g:w.2.1.length<=4000000)(i:w.2.2.length<=4000000):Ev X 43 [CZ w] [] (.e (.agg [.bp 0 (.sl w.1.1.length 2 0 w.1.1.length),qD ee w.1.2.1,qD cH w.1.2.2,qD cI w.2.1,qD cI w.2.2])) [.buf 43 2 w.1.1.length (cP.fn w.1.1)]:=by
 refine Ev.wB tok Tryz.func43 rfl rfl rfl λk=>?_
 have a:bG X [(28,Kf [nc w.1] [] (.e (.agg [.bp 0 (.sl w.1.1.length 2 0 w.1.1.length),.bp 1 (.sl w.1.2.1.length 2 0 w.1.2.1.length),.c (.sl ae 2 w.1.2.2.length (cH.fn w.1.2.2))])) [.buf 43 2 w.1.1.length (cP.fn w.1.1),.buf 39 2 w.1.2.1.length (ee.fn w.1.2.1)]),
   (75,kB (aL cI) (λl=>cI.sl l) λl=>[l.length<=4000000])]:=.cons (PK (px w.1 b.p b.p2 b.sn b.s2 b.h)) (.cons (.oL λl h=>wQ l h) .nil)
 refine bt a [(1000001,ab)] rfl ar ?_;refine AK.flags dn (xCl w) (wA (Zz w) 2 10) rfl rfl rfl rfl
  ⟨.B4 tok a,.B4 tok a,eG.sA rfl rfl (fJ (ds:=[]) tok a (σ':=aa _) rfl (by simp)),.B4 tok a,.B4 tok a,.SV tok a (ho:=by exact⟨cI.aJ _,by rw[cI.list_fn];exact g⟩),.B4 tok a,.B4 tok a,.SV tok a (ho:=by exact⟨cI.aJ _,by rw[cI.list_fn];exact i⟩),.B4 tok a,
   eG.sB rfl rfl (fJ (ds:=[]) tok a (σ':=aa _) rfl ar),ar⟩ ?_
 intro D d;show AK X _ _ _ _ _ (Zz w (D 2) (D 10));rw[d 2 (by decide),d 10 (by decide)];refine X0 a [] 1 rfl ar ?_;refine AK.rT 3 rfl rfl rfl (by simp) (by simp) ?_;refine AK.norm [Dw w,.cells 32 [.bp 2 (.sl w.1.1.length 2 0 w.1.1.length),qD ee w.1.2.1,qD cH w.1.2.2,qD cI w.2.1,qD cI w.2.2],.buf 43 2 w.1.1.length (cP.fn w.1.1),.dead] rfl ?_ ?_
 .simp[cI.list_fn,sX]
 refine AK.lO () [2] rfl rfl rfl rfl rfl rfl rfl rfl ?_ rfl rfl rfl rfl (λj f=>absurd f (by simp));simp
abbrev O9(l:List bc):bm:=.buf 43 2 l.length (cP.fn l)
abbrev VX(n m:Nat):D:=.e (.one (.bp 0 (.sl n 2 0 m)))
def Mm(l:List bc)(m:Nat)(u:m<=l.length)(v:l.length<=4000000)(b:Nat)(cs:List C)(q:bc->Bool)(r:∀x,x∈l.take m->Ev X b [xP x,.e (.one (.c (.rp cs)))] [] (dB (q x)) []):
  Ev X 74 [VX l.length m,.e (.one (.c (.fn (.func b) [] [.rp cs])))] [O9 l] (dI (l3 q (l.take m))) [O9 l]:=by
 refine Ev.bQ Tryz.func74 rfl λs=>?_;refine bw rfl ar ?_;have n:(l.take m).length=m:=by simp;omega
 have f:∀j,j<m->(l.take m).getD j (0,[])=l.getD j (0,[]):=λj g=>by simp[eX,g]
 refine AK.bX 1 (λi=>i<=m/\∀j,j<i->q ((l.take m).getD j (0,[]))=ae) (λi:Nat=>[(0,VX l.length m),(1,.e (.one (.c (.fn (.func b) [] [.rp cs])))),(7,dI m),(8,dI i)]) (λ_=>[O9 l]) (λi=>m-i) 0 rfl (by simp) rfl (by simp) rfl ⟨by omega,by omega⟩ ?_;rintro i ⟨hi,a⟩;by_cases h:i<m
 .have o:l.getD i (0,[])∈l.take m:=by rw[<-f i h];grind
  have p:l.getD ((0+(i:Int).toNat:Nat)) cP.bP=l.getD i (0,[]):=by simp;rfl
  refine aX [(9,ab)] rfl ?_ ?_
  .simp only[au];grind
  rw[p];refine AK.cQ (r _ o) [] rfl ?_;cases k:q (l.getD i (0,[]))with
  |true =>
   refine aX [(16,ab)] rfl (by simp) (AK.eY (ck.mk [0] rfl ?_ rfl rfl rfl l0));simp[sj (t:=l.take m) (d:=(0,[])) (by omega) (by rw[f i h];exact k) a]
  |false =>
   refine aX [(16,ae)] rfl ?_ (AK.aQ (i+1) rfl (by simp) (by simp) ⟨h,λj g=>?_⟩ (by omega))
   .simp[bx];omega
   .by_cases e:j=i
    .rw[e,f i h];exact k
    .exact a j (by omega)
 .refine aX [(9,ae)] rfl (by simp;omega) (AK.leaveD rfl rfl ?_);refine bw rfl ar (AK.dJ [0] rfl ?_ rfl rfl rfl l0);simp[ni (t:=l.take m) (d:=(0,[])) (λj g=>a j (by omega))]
def yl(l:List bc)(m i:Nat):List bc:=(l.take m).eraseIdx i++(0,[])::l.drop m
def Mn{l:List bc}{m:Nat}(a:m<=l.length)(hi:i<m):(yl l m i).length=l.length:=by unfold yl;rw[cf,zn (by simp;omega)];simp;omega
def Mo(l:List bc)(m i:Nat)(z:m<=l.length)(hi:i<m)(A:l.length<=4000000):
  Ev X 78 [VX l.length m,dI i,dI ((i:Int)+1)] [O9 l] (VX l.length (m-1)) [.buf 43 2 l.length (cP.fn (yl l m i))]:=by
 refine Ev.bQ Tryz.func78 rfl λy=>?_;refine bF [(16,ae),(1000006,ab)] rfl ?_ ?_
 .simp[cD];omega
 have u:cD m (aa (i:Int))-cD 0 af+(cD m af-cD 0 (aa ((i:Int)+1)))=m-1:=by simp[cD];omega
 rw[u];refine AK.region ?_;refine Eo [] 4 rfl ar ?_;refine AK.law (bE.NI tok rfl rfl rfl rfl rfl rfl rfl rfl rfl (by omega) (by omega) (by omega)) rfl rfl ?_;refine AK.law (bE.DL tok rfl rfl rfl rfl rfl rfl ?_) rfl rfl ?_
 .simp only[cD,bM];omega
 refine bF [(1000007,ab)] rfl ar ?_;refine AK.Tj 0 (cP.fn (yl l m i)) rfl (λ_ _=>rfl) (λM idx iI j g s=>?_) ?_
 .have k:cD m (aa (i:Int))-cD 0 af=i:=by simp[cD]
  have o:cD 0 (aa ((i:Int)+1))=i+1:=by simp only[cD];omega
  have p:cD m af=m:=rfl;simp only[bM];rw[k,o,p];have t:(yl l m i).getD idx (0,[])=if idx<i then l.getD idx (0,[])else if idx<m-1 then l.getD (idx+1) (0,[])else if idx<m then(0,[])else l.getD idx (0,[]):=by
   unfold yl;have e:((l.take m).eraseIdx i).length=m-1:=by rw[zn (by simp;omega)];simp;omega
   simp only[ai];by_cases f:idx<m-1
   .rw[js (by omega),List.getElem?_eraseIdx];by_cases c:idx<i
    .rw[br c,br c,eX,br (by omega)]
    .rw[a9 c,a9 c,br f,eX,br (by omega)]
   .rw[fA (by omega),e];by_cases n:idx=m-1
    .subst n;rw[a9 (by omega),a9 (by omega),br (by omega)];simp
    .obtain⟨d,rfl⟩:∃d,idx=m+d:=⟨idx-m,by omega⟩
     rw[a9 (by omega),a9 (by omega),a9 (by omega),show m+d-(m-1)=d+1 by omega];simp[oS]
  have a:(cP.enc ((yl l m i).getD idx (0,[])))[j]?=aa g:=s;rw[t]at a;by_cases f:idx=m-1
  .subst f;rw[a9 (by omega),a9 (by omega),br (by omega)]at a;have w:nU (0+(m-1)) (0+(m-1)+(m-(m-1))) i43.zero (Bl i (0+(i+1)) (m-(i+1)) (cP.fn l)) (m-1)=i43.zero:=br (by omega);rw[w]
   match j,a with
   |0,a=>exact⟨_,rfl,λv r=>by cases a;exact r⟩
   |1,a=>exact⟨_,rfl,λv r=>by cases a;exact Ju (x:=.sl ab 0 0 λ_=>[]) rfl ⟨rfl,rfl⟩ r⟩
  .refine⟨g,?_,λ_ r=>r⟩;rw[<-a];congr 1;unfold nU Bl;rw[a9 (by omega)];have b:∀q,cP.fn l q=cP.enc (l.getD q (0,[])):=λ_=>rfl;by_cases c:idx<i
   .rw[a9 (by omega),br c,b]
   .rw[a9 c];by_cases h:idx<m-1
    .rw[br (by omega),br h,b,show 0+(i+1)+(idx-i)=idx+1 by omega]
    .rw[a9 (by omega),a9 h,a9 (by omega),b]
 refine c9 rfl ar (AK.dJ [0] rfl ?_ rfl rfl rfl l0);simp;rfl
end
def xN(w:dN):Nat->dN
 |0=>w
 |j+1=>ru (xN w j)
def xO{w:dN}:∀{j:Nat},j<=w.2.2.length->(xN w j).1.2=w.1.2/\(xN w j).2.1=w.2.1/\(xN w j).2.2=w.2.2.drop j/\(xN w j).1.1=(w.2.2.take j).foldl (λps no=>eN no w.2.1 ps) w.1.1
 |0,_=>⟨rfl,rfl,rfl,rfl⟩
 |j+1,h=>by
  obtain⟨f,a,b,c⟩:=xO (w:=w) (j:=j) (by omega);have d:w.2.2.drop j=w.2.2.getD j 0::w.2.2.drop (j+1):=by rw[sQ (by omega)];simp[bg (show j<w.2.2.length by omega)]
  have e:xN w (j+1)=((eN (w.2.2.getD j 0) w.2.1 (xN w j).1.1,(xN w j).1.2),(xN w j).2.1,w.2.2.drop (j+1)):=by rw[show xN w (j+1)=ru (xN w j)from rfl];unfold ru;rw[b,d,a]
  rw[e,bu (by omega) 0,uQ,<-c];exact⟨f,a,rfl,rfl⟩
def mQ.xN{k:Int}{w:dN}(h:mQ k w):∀j,mQ k (xN w j)
 |0=>h
 |j+1=>(mQ.xN h j).step
def iD(ms:List Int)(ps:List bc):List bc:=(ps.map λp=>cA p ms).filter λp=>!p.2.isEmpty
def Ij{p:bc}{ms:List Int}:cA (cA p ms) ms=cA p ms:=by simp[cA,List.filter_filter]
def zl{ms:List Int}:∀(L:List Int)(ps:List bc),(∀p∈ps,p.2≠[])->L.foldl (λps no=>eN no ms ps) ps=(ps.map λp=>if p.1∈L then cA p ms else p).filter λp=>!p.2.isEmpty
 |[],ps,h=>by simp only[List.foldl_nil,nK,bS,List.map_id'];rw[oQ.2 λp a=>by simpa using h p a]
 |no::L,ps,h=>by
  rw[iH,zl L _ λp a=>by obtain⟨_,_,_,f⟩:=xA a;exact f];clear h;induction ps with
  |nil=>rfl
  |cons p ps ih =>
   unfold eN at ih⊢;simp only[jA,nI]at ih⊢;by_cases a:p.1=no
   .have e:jf no ms p=cA p ms:=br a;have g:(cA p ms).1=p.1:=rfl;rw[e];split
    .simp only[jA,nI,g,Ij,ih,a,dC,true_or,bY];split<;>simp_all
    .simp_all
   .have e:jf no ms p=p:=a9 a;rw[e];have c:(p.1∈no::L)↔p.1∈L:=by simp[a]
    split
    .simp only[jA,nI,ih,c]
    .simp only[ih,c];have b:p.2=[]:=by simp_all
     have:(cA p ms).2=[]:=by simp[cA,b]
     by_cases d:p.1∈L<;>simp[d,this,b]
def tP{k:Int}{s:bo}(h:rr k s)(fl:List cg)(ms:List Int):(xN ((s.1,fl,s.2.2),ms,s.1.map (·.1)) s.1.length).1=(iD ms s.1,fl,s.2.2):=by obtain⟨b,_,_,c⟩:=xO (w:=((s.1,fl,s.2.2),ms,s.1.map (·.1))) (j:=s.1.length) (by simp);refine Prod.ext ?_ b;rw[c];simp only;rw[zq (by simp),zl _ _ λp a=>by have:=(h.pk p a).len.1;grind];unfold iD;congr 1;refine pQ λp a=>br (jC.2 ⟨p,a,rfl⟩)
def ko(ms:List Int):∀ps:List bc,bD (iD ms ps)=(bD ps).filter λn=>ms.contains n
 |[]=>rfl
 |p::ps=>by
  have a:=ko ms ps;unfold bD iD at *;rw[jA,nI,l7,List.filter_append,<-a];have e:(p.2.map (·.1)).filter (λn=>ms.contains n)=(cA p ms).2.map (·.1):=by simp[cA,List.filter_map];rfl
  rw[e];split
  .rw[l7]
  .have:(cA p ms).2=[]:=by simp_all
   rw[this];rfl
def xL{ms:List Int}{ps:List bc}(h:∀n∈bD ps,n∈ms)(b:∀p∈ps,p.2≠[]):iD ms ps=ps:=by
 have:∀p∈ps,cA p ms=p:=λp a=>by refine Prod.ext rfl (oQ.2 λx c=>?_);have:=h x.1 (pV.2 ⟨p,a,jC.2 ⟨x,c,rfl⟩⟩);simpa using this
 unfold iD;rw[pQ this,List.map_id',oQ.2 λp a=>by simpa using b p a]
def zk{ms:List Int}{no:Int}:∀{ps:List bc}{i:Nat},(ps.Pairwise λp q=>p.1<q.1)->(∀p∈ps,p.2≠[])->i<ps.length->(ps.getD i (0,[])).1=no ->
  l3 (λp:bc=>p.1==no) ps=i/\eN no ms ps=if(cA (ps.getD i (0,[])) ms).2.length=0 then ps.eraseIdx i else ps.set i (cA (ps.getD i (0,[])) ms)
 |p::ps,0,d,c,_,h=>by
  obtain⟨k,l⟩:=lz.1 d;simp only[List.getD_cons_zero]at h⊢;have e:ps.map (jf no ms)=ps:=by rw[pQ (g:=id) λq a=>by have:=k q a;exact a9 (by omega),List.map_id]
  refine⟨by simp[l3,List.findIdx?_cons,h],?_⟩;unfold eN;rw[jA,e,show jf no ms p=cA p ms from br h,nI,oQ.2 λq a=>by simpa using c q (kI _ a)];split<;>split<;>simp_all
 |p::ps,i+1,d,c,hi,h=>by
  obtain⟨k,l⟩:=lz.1 d;simp only[List.getD_cons_succ,fQ]at h hi⊢;obtain⟨k1,n⟩:=zk (ms:=ms) (i:=i) l (λq a=>c q (kI _ a)) (by omega) h;have o:ps.getD i (0,[])∈ps:=by grind
  have b:p.1≠no:=by have:=k _ o;omega
  have f:=c p iG;refine⟨?_,?_⟩
  .unfold l3 at k1⊢;rw[List.findIdx?_cons];have:(p.1==no)=ae:=by simpa using b
   rw[this];cases m:ps.findIdx? λp=>p.1==no with
   |none=>rw[m]at k1;simp only at k1;omega
   |some j=>rw[m]at k1;simp only at k1;simp;omega
  .have e:eN no ms (p::ps)=p::eN no ms ps:=by unfold eN;rw[jA,show jf no ms p=p from a9 b,nI,br (by simpa using f)]
   rw[e,n];split<;>simp
def mD(ms:List Int)(l:List bc)(m i:Nat):List bc×Nat :=
 if(cA (l.getD i (0,[])) ms).2.length=0 then(yl l m i,m-1)else(l.set i (cA (l.getD i (0,[])) ms),m)
def Mp{ms:List Int}{no:Int}{l:List bc}{m:Nat}(c:m<=l.length)(hi:i<m)(d:(l.take m).Pairwise λp q=>p.1<q.1)(f:∀p∈l.take m,p.2≠[])(h:(l.getD i (0,[])).1=no):
  l3 (λp:bc=>p.1==no) (l.take m)=i/\(mD ms l m i).1.length=l.length/\(mD ms l m i).2<=m/\(mD ms l m i).1.take (mD ms l m i).2=eN no ms (l.take m):=by
 have b:(l.take m).getD i (0,[])=l.getD i (0,[]):=by simp[eX,hi]
 obtain⟨k1,a⟩:=zk (ms:=ms) (no:=no) (ps:=l.take m) (i:=i) d f (by rw[List.length_take];omega) (b▸h);rw[b]at a;rw[a];unfold mD;split
 .refine⟨k1,Mn c hi,by omega,?_⟩;unfold yl;have e:((l.take m).eraseIdx i).length=m-1:=by rw[zn (by simp;omega)];simp;omega
  simp only;exact List.take_left' e
 .exact⟨k1,by simp,ba _,by rw[List.take_set]⟩
section
variable {X:Cx ag}
def Mq(p:bc)(n:Int):Ev X 76 [xP p,.e (.one (.c (.rp [.int .i64 n])))] [] (dB (p.1==n)) []:=by refine Ev.bQ Tryz.func76 rfl λa=>?_;exact bw rfl ar (AK.bn rfl)
abbrev S4(n m:Nat)(sn:List cg)(a:List (Int×Int))(ms lf:List Int)(b:Nat):bm:=.cells 32 [.bp b (.sl n 2 0 m),qD ee sn,qD cH a,qD cI ms,qD cI lf]
abbrev Ii(l:List bc)(i:Nat):bc:=l.getD (0+(i:Int).toNat) cP.bP
abbrev xPr(l:List bc)(m i:Nat)(ms:List Int)(k:Nat):D :=
 [.e (.one (.ptr 3 0)),.e (.one (.ptr 3 0)),.e (.one (.ptr 3 0)),.e (.one (.ptr 3 0)),.e (.one (.bp 2 (.sl l.length 2 0 m))),dI i,.e (.one (.bp 2 (.el l.length 2 (0+(i:Int).toNat) 0))),xP (Ii l i),
  .e (.one (.ptr 3 0)),.e (.one (.ptr 3 0)),.e (.one (.ptr 3 3)),cI.sl ms,xP (cA (Ii l i) ms),.e (.one (.ptr 6 0)),.any].getD k .any
abbrev S5:bm:=.cells 27 [hO,hO,hO]
abbrev ZA(l:List bc)(i:Nat)(ms:List Int):bm:=.cells 43 [.c (.int .i64 (Ii l i).1),.c (sP (cA (Ii l i) ms))]
abbrev ZB(w:dN)(H:aj->(Nat->Option Obj)->Prop)(l:List bc)(m i:Nat)(sn:List cg)(d:List (Int×Int))(ms lf:List Int)(a b:Bool):List bm :=
 match a,b with
 |false,_=>[Dw w,S5,O9 l,S4 l.length m sn d ms lf 2,.cq H,.dead]
 |true,ae=>[Dw w,S5,O9 l,S4 l.length m sn d ms lf 2,.cq H,.dead,.cells 43 [.c (.int .i64 0),hO]]
 |true,ab=>[Dw w,S5,O9 l,S4 l.length m sn d ms lf 2,.cq H,.dead,ZA l i ms]
set_option maxRecDepth 20000 in
def Fi(w:dN)(H:aj->(Nat->Option Obj)->Prop)(no:Int)(l:List bc)(m i:Nat)(sn:List cg)(f:List (Int×Int))(ms lf:List Int)(j:m<=l.length)(k:l.length<=4000000)(hi:i<m)(o:l3 (λp:bc=>p.1==no) (l.take m)=i)(b:∀p∈l,p.2.length<=4000000):
  dO (ι:={es:Nat->List C // cw l.length es (cP.fn (mD ms l m i).1)}) X 44 [.e (.one (.ptr 3 0)),dI no] [Dw w,S5,O9 l,S4 l.length m sn f ms lf 2,.cq H] (λ_=>.fz []) (λes=>[Dw w,S5,.buf 43 2 l.length es.1,S4 l.length (mD ms l m i).2 sn f ms lf 2,.cq H,.dead,ZA l i ms]):=by
 refine dO.DZ Tryz.func44 rfl rfl rfl (AK.of_code ?_);refine bF [(1000001,ab)] rfl ar ?_;refine AK.freeze 3 5 rfl rfl rfl ?_;refine c9 rfl ar ?_;refine AK.cQ (Mm l m j k 76 [.int .i64 no] (λp=>p.1==no) λp _=>Mq p no) [2] rfl ?_;rw[o];have g:Ii l i=l.getD i (0,[]):=by simp;rfl
 have c:Ii l i∈l:=by rw[g];grind
 have a:bG X [(77,pt [xP (Ii l i),cI.sl ms] (xP (cA (Ii l i) ms)))]:=.cons (rh (Ml (Ii l i) ms (b _ c))) .nil;have ho:0<=(i:Int)/\(i:Int)<((m:Nat):Int):=by omega
 have h:l.length=l.length/\0+(i:Int).toNat<l.length:=⟨rfl,by omega⟩
 refine bF [(1000002,ab)] rfl ar ?_;refine AK.flags dn (xPr l m i ms) (wA (ZB w H l m i sn f ms lf) 13 14) rfl rfl rfl rfl
  ⟨.B4 tok a,.B4 tok a,.B4 tok a,.B4 tok a,.B4 tok a,.B4 tok a,.SV tok a (ho:=by exact ho),.SV tok a (ho:=by exact h),.B4 tok a,.B4 tok a,.B4 tok a,.B4 tok a,.SV tok a (ho:=by exact rfl),
   eG.sA rfl rfl (fJ (ds:=[]) tok a (σ':=aa _) rfl ar),eG.sB rfl rfl (fJ (ds:=[]) tok a (σ':=aa _) rfl ar),ar⟩ ?_
 intro D n;show AK X _ _ _ _ _ (ZB w H l m i sn f ms lf (D 13) (D 14));rw[n 13 (by decide),n 14 (by decide)];unfold mD;by_cases d:(cA (Ii l i) ms).2.length=0
 .rw[br (by rw[<-g];exact d)];refine bF [(29,ab)] rfl ?_ ?_
  .simp only[au,bx,d];exact⟨by omega,rfl⟩
  refine AK.cQ (Mo l m i j hi k) [2] rfl ?_;refine c9 rfl ar ?_;exact⟨⟨_,cw.same⟩,.inr rfl,rfl,rfl,_,_,_,rfl,rfl,rfl,ar⟩
 .rw[a9 (by rw[<-g];exact d)];refine bF [(29,ae)] rfl ?_ ?_
  .simp only[au];exact⟨ar,by omega,by omega,by omega,by simpa using d⟩
  refine⟨⟨oA (0+(i:Int).toNat) [.int .i64 (Ii l i).1,sP (cA (Ii l i) ms)] (cP.fn l),?_⟩,.inr rfl,rfl,rfl,_,_,_,rfl,rfl,rfl,ar⟩;have:=cP.EG l i (cA (Ii l i) ms) l.length (ba _);rw[g]at *;rw[show 0+(i:Int).toNat=i by omega];exact this
end
def Mr(k:Int)(w:dN):bo×Bool:=if mx k w=ab then((xN w w.2.2.length).1,ab)else(([],[],[]),ae)
structure Pa(w:dN)(n0 j:Nat)(l:List bc)(m:Nat):Prop where
 hj:j<=w.2.2.length
 len:l.length=n0
 hm:m<=n0
 now:l.take m=(xN w j).1.1
 sz:∀p∈l,p.2.length<=4000000
abbrev ZC(w:dN)(l:List bc)(m:Nat)(H:aj->(Nat->Option Obj)->Prop):List bm:=[Dw w,S5,O9 l,S4 l.length m w.1.2.1 w.1.2.2 w.2.1 w.2.2 2,.cq H]
def Pa.next{k:Int}{w:dN}{o:Nat}{l:List bc}{m:Nat}(s:mQ k w)(h:Pa w o j l m)(b:j<w.2.2.length):
  ∃i,i<m/\l3 (λp:bc=>p.1==w.2.2.getD j 0) (l.take m)=i/\Pa w o (j+1) (mD w.2.1 l m i).1 (mD w.2.1 l m i).2:=by
 have e:=s.xN j;obtain⟨h1,h2,n,x⟩:=xO (w:=w) (j:=j) h.hj;have q:w.2.2.drop j=w.2.2.getD j 0::w.2.2.drop (j+1):=by rw[sQ b];simp[bg b]
 obtain⟨p,a,f⟩:=e.lp (w.2.2.getD j 0) (by rw[n,q];exact iG);rw[<-h.now]at a;obtain⟨i,hi,d⟩:=dH a;rw[List.length_take]at hi;have c:i<m:=by omega
 have u:(l.getD i (0,[])).1=w.2.2.getD j 0:=by rw[<-f,<-d];simp[bg (show i<l.length by omega)]
 have g:∀p∈l.take m,p.2≠[]:=λp a=>by rw[h.now]at a;have:=(e.pk p a).len.1;grind
 obtain⟨k1,r,v,t⟩:=Mp (ms:=w.2.1) (by rw[h.len];exact h.hm) c (by rw[h.now];exact e.pa) g u;refine⟨i,c,k1,b,by rw[r,h.len],dT v h.hm,?_,λp a=>?_⟩
 .rw[t,h.now];rw[show xN w (j+1)=ru (xN w j)from rfl];unfold ru;rw[n,q,h2]
 .unfold mD at a;split at a
  .unfold yl at a;simp only[eJ,dC]at a;rcases a with a|a|a
   .exact h.sz p (jy (List.mem_of_mem_eraseIdx a))
   .rw[a];simp
   .exact h.sz p (zx a)
  .rcases List.mem_or_eq_of_mem_set a with a|a
   .exact h.sz p a
   .rw[a];have hm:l.getD i (0,[])∈l:=by grind
    exact dT (kH _ _) (h.sz _ hm)
def ln(k:Int)(w:dN)(c:VT w)(g:iS w.1):Ev (Cx.beside ag) 17 [dI k,CZ w] [] (Zh (Mr k w).1 (Mr k w).2) []:=by
 refine Ev.oz Tryz.func17 rfl rfl rfl λA=>?_;have x:bG (Cx.beside ag) [(16,y7)]:=.cons HU .nil;have B:=g.p;have o:=c.XS;unfold Mr;cases r:mx k w with
 |false =>
  refine bt x [(14,ab)] rfl ?_ ?_
  .simp only[au,cP.list_fn,cP.aJ,ee.list_fn,ee.aJ,cH.list_fn,cH.aJ,cI.list_fn,cI.aJ,r,c,aF,aE,kX]
  refine AK.freeze 4 1 rfl rfl rfl ?_;refine AK.zR tok [] rfl ?_ rfl rfl rfl uD;simp
 |true =>
 rw[br rfl];have y:=um.1 r;refine bt x [(14,ae)] rfl ?_ ?_
 .simp only[au,cP.list_fn,cP.aJ,ee.list_fn,ee.aJ,cH.list_fn,cH.aJ,cI.list_fn,cI.aJ,r,c,aF,aE,kL]
 refine AK.cQ (Fh w g c.mrk c.XS) [] rfl ?_;refine c9 rfl ar ?_;refine AK.MZ rfl Tryz.underlying79 (fh Tryz.type3) rfl rfl o rfl rfl λd=>?_;refine c9 rfl ar ?_;refine AK.bX 5 (λi=>i<=w.2.2.length) (λi:Nat=>[(4,.e (.one (.ptr 1 0))),(6,.e (.one (.ptr 3 0))),(7,P2 d),(23,cI.sl w.2.2),(24,dI w.2.2.length),(25,dI i)])
  (λi=>ZC w w.1.1 w.1.1.length (gY d w.2.2.length (w.2.2.take i) ae)) (λi=>w.2.2.length-i) 0 rfl (by simp) rfl (by simp) rfl (by omega) ?_
 .intro i hi;by_cases h:i<w.2.2.length
  .have s:w.2.2.getD (i:Int).toNat cI.bP=w.2.2.getD i 0:=rfl;have t:=bu h 0;refine bF [(26,ab)] rfl (by simp;omega) ?_;rw[s];refine AK.zU (mX.send (l:=4) (q:=w.2.2.take i) (cap:=w.2.2.length) rfl rfl rfl rfl (by rw[List.length_take];omega)) rfl rfl ?_;refine c9 rfl ?_ (AK.aQ (i+1) rfl (by simp) ?_ h (by omega))
   .simp[bx];omega
   .rw[t];simp
  obtain rfl:i=w.2.2.length:=by omega
  rw[cC];refine bF [(26,ae)] rfl (by simp) (AK.leaveD rfl rfl ?_);refine c9 rfl ar ?_;refine AK.zU (mX.close (l:=4) rfl rfl rfl) rfl rfl ?_;refine c9 rfl ar ?_;refine AK.bX 5 (λq:Nat×List bc×Nat=>Pa w w.1.1.length q.1 q.2.1 q.2.2) (λ_=>[(4,.e (.one (.ptr 1 0))),(6,.e (.one (.ptr 3 0))),(33,P2 d)])
   (λq=>ZC w q.2.1 q.2.2 (gY d w.2.2.length (w.2.2.drop q.1) ab)) (λq=>w.2.2.length-q.1) (0,w.1.1,w.1.1.length) rfl (by simp) rfl (by simp) rfl ⟨iT _,rfl,ba _,by simp[xN],g.p2⟩ ?_
  rintro⟨j,l,m⟩ a;simp only at a;have b:=a.len;by_cases h:j<w.2.2.length
  .obtain⟨i,hi,z,v⟩:=a.next y h;have s:w.2.2.drop j=w.2.2.getD j 0::w.2.2.drop (j+1):=by rw[sQ h];simp[bg h]
   rw[s];refine c9 rfl ar ?_;refine AK.zU (mX.recv (l:=4) rfl Tryz.underlying79 (λw=>Tryz.zeroValue3 w) rfl rfl) rfl rfl ?_;refine bF [(35,ab)] rfl rfl ?_;refine AK.MG (Fi w _ (w.2.2.getD j 0) l m i w.1.2.1 w.1.2.2 w.2.1 w.2.2 (by rw[b];exact a.hm) (by omega) hi z a.sz) rfl rfl rfl rfl ?_ rfl ?_
   .simp
   rintro⟨es,u⟩;refine c9 rfl ar (AK.aQ (j+1,(mD w.2.1 l m i).1,(mD w.2.1 l m i).2) rfl (by simp) ?_ v (by simp only;omega));have f:(mD w.2.1 l m i).1.length=l.length:=by rw[v.len,b]
   simp only[au.cat,au,f,aF,aE];and_intros<;>first|exact cw.same|exact u|rfl
  obtain rfl:j=w.2.2.length:=by have:=a.hj;omega
  rw[rF];refine c9 rfl ar ?_;refine AK.zU (mX.IM (l:=4) rfl Tryz.underlying79 (λw=>Tryz.zeroValue3 w) rfl rfl) rfl rfl ?_;refine bF [(35,ae)] rfl rfl (AK.leaveD rfl rfl ?_);refine AK.rT 2 rfl rfl rfl (by simp) (by simp;rw[b];exact a.hm) ?_;refine c9 rfl ar ?_;refine AK.freeze 4 1 rfl rfl rfl ?_;refine AK.zR tok [] rfl ?_ rfl rfl rfl uD;have e:(xN w w.2.2.length).1=(l.take m,w.1.2):=Prod.ext a.now.symm (xO (ba _)).1;have n:m=(l.take m).length:=by have:=a.hm;simp;omega
  rw[e];simp only[au.cat,au,aF,aE];and_intros<;>first|exact cw.same|exact n|rfl|(intro i hi;simp only[sX,kh.fn,x8,ai,eX,hi,bY])
section
variable {X:Cx ag}[X.im]
abbrev yh:bm:=.cq (iR 43 2 (.nil af) 0 [])
abbrev L5(v:aj)(s:bo):bm:=.cells 27 [.c (.val v),.c (Ob s.2.1),.c (Oc s.2.2)]
abbrev SB(v:aj)(s:bo):D:=.e (.agg [.c (.val v),.c (Ob s.2.1),.c (Oc s.2.2)])
abbrev L6:bm:=.cells 27 [.any,.any,.any]
abbrev Bh(v:aj)(s:bo):bm:=.cq (PM (SA v s.1))
def Zt(m:Nat)(b:Nat->Int)(k:Int)(s s':bo)(e:Option aj)(a c d:Bool):List bm :=
 match e with
 |none=>match a,c with
  |false,ae=>[kE m b k,je,sv s,yh]
  |true,ae=>[kE m b (k+1),je,sv s,yh]
  |false,ab=>[kE m b k,je,sv s,yh,je]
  |true,ab=>[kE m b (k+1),je,sv s,yh,je]
 |some v=>match a,c,d with
  |true,ae,_=>[kE m b (k+1),je,sv s,Bh v s']
  |true,ab,ae=>[kE m b (k+1),je,sv s,Bh v s',je]
  |true,ab,ab=>[kE m b (k+1),je,sv s,Bh v s',L5 v s']
  |false,ae,_=>[kE m b k,je,sv s,Bh v s']
  |false,ab,_=>[kE m b k,je,sv s,Bh v s',je]
def x9P(u:Int)(s s':bo)(t:List bC)(a:Option aj)(i:Nat):D :=
 [nc s,.e (.one (.ptr 0 0)),dI u,dI (1+u),cF.sl t,
  (match a with|none=>.any|some v=>.fz [.agg [.c (.val v),.c (Ob s'.2.1),.c (Oc s'.2.2)],.one (.c (.bool ab))]),
  (match a with|none=>.any|some v=>.fz [.agg [.c (.val v),.c (Ob s'.2.1),.c (Oc s'.2.2)],.one (.c (.bool ab))]),
  (match a with|none=>.any|some v=>SB v s'),dB ab,.e (.one (.ptr 4 0)),.any,dB ab].getD i .any
def Zu(m:Nat)(b:Nat->Int)(k:Int)(v:aj)(s:bo)(a c d:Bool):List bm :=
 match a,c,d with
 |false,ae,_=>[kE m b k,je,L5 v s,Bh v s]
 |true,ae,_=>[kE m b (k+1),je,L5 v s,Bh v s]
 |false,ab,ae=>[kE m b k,je,L5 v s,Bh v s,je]
 |true,ab,ae=>[kE m b (k+1),je,L5 v s,Bh v s,je]
 |false,ab,ab=>[kE m b k,je,L5 v s,Bh v s,L6]
 |true,ab,ab=>[kE m b (k+1),je,L5 v s,Bh v s,L6]
abbrev L8:D:=.fz [.agg [.any,.any,.any],.one (.c (.bool ae))]
def x9F(u:Int)(v:aj)(s:bo)(t:List bC)(i:Nat):D:=[SB v s,.e (.one (.ptr 0 0)),dI u,dI (1+u),cF.sl t,L8,L8,.e (.agg [.any,.any,.any]),dB ae,.e (.one (.ptr 4 0)),.any,dB ae].getD i .any
abbrev StJ(k:Nat):={q:bo×aj×Nat // D7 q.1/\k<=q.2.2/\q.2.2<=k+1000}
def D7.ne{s:bo}(h:D7 s):∀p∈s.1,0<p.2.length:=λp a=>(h.p p a).len.1
def Vj:∀j,j<1->([0,3]:List Nat)[j]?=aa j:=λj a=>by grind
def E9(s:bo)(by_:Int)(t:List bC)(a:D7 s)(c:sq t)(b:uf 7 s t=ab):dO (ι:=Nat->aj) X 85 [dI 7,nc s,dI by_,cF.sl t] [] (λ_=>L8) (λ_=>[]) :=
 (xJ (X:=X) 7 s by_ t (by decide) a.size a.num c a.eT a.ne b).le (λ_=>rfl) (λ_=>by simp)
set_option maxRecDepth 20000 in
def Dj(m:Nat)(b:Nat->Int)(z:Bytes b)(k:Nat)(hk:k<=40000)(G:m<=1048576):
  dO (ι:=StJ k) X 53 [.e (.one (.ptr 0 0))] [kE m b k] (λq=>SB q.1.2.1 q.1.1) (λq=>[kE m b q.1.2.2,Bh q.1.2.1 q.1.1]):=by
 refine dO.oz tok Tryz.func53 rfl rfl rfl λhf=>?_;refine aX [(1000002,ab)] rfl ar ?_;refine AK.spare 43 2 ?_;refine AK.T5 3 2 0 2 (cP.fn []) (by decide) rfl rfl rfl λv0=>?_;refine bw rfl ar ?_;refine AK.cP (Oi m b z k (by omega) G) [0] rfl (λ_=>rfl) ?_;rintro⟨⟨t0,k1⟩,L,U,J⟩;simp only at L U J;refine bw rfl ar ?_;refine AK.cP (gD m b z k1 5 (by omega) G (by omega)) [0] rfl (λ_=>rfl) ?_;rintro⟨u,u0,u1⟩;refine bw rfl ar ?_;refine AK.bX 4 (λq:bo×aj×List bC×Nat×Nat=>D7 q.1/\du q.2.2.1=ab/\q.2.2.2.1<=4/\k<=q.2.2.2.2/\q.2.2.2.2+100*q.2.2.2.1<=k+900) (λq=>f92 q.2.2.1 q.2.2.2.1) (λq=>[kE m b q.2.2.2.2,je,L5 q.2.1 q.1,Bh q.2.1 q.1]) (λq=>q.2.2.2.1) (([],[],[]),v0,t0,u.toNat,k1+1) rfl ?_ rfl ?_ rfl ⟨D7.nil,L,by grind,by grind,by grind⟩ ?_
 .simp only[au.cat,au,aF,aE];and_intros<;>first|exactλ_ _=>rfl|omega
 .simp;rfl
 rintro⟨s,v,t,n,l⟩ ⟨A,R,Y,N,I⟩;simp only at A R Y N I;by_cases hn:0<n
 .have hv:=uo m b l 2 (by omega);have y:au [(l:Int)=(l:Int).toNat,yY b=yY (Sd (yY b)),Bytes (Sd (yY b)),(l:Int)<=4000000,m<=1048576,(1:Int)<=2,(2:Int)<=4000000]:=⟨rfl,rfl,z,by omega,G,by omega,(by decide:(2:Int)<=4000000)⟩
  have B:au [bx .i64 (1+lV m b l 2)]:=by simp only[au,bx];omega
  have g:bG X [(54,X2)]:=.cons t54 .nil;refine bF [(19,ab),(1000006,ab)] rfl (by simp only[au,bq];omega) ?_;apply AK.T7 (ι:={q:bo×aj // D7 q.1}) (λ_=>f92 t n) (λq=>[kE m b (l+1:Nat),je,L5 q.1.2 q.1.1,Bh q.1.2 q.1.1,L6])
  .intro out;cases F:uf 7 s t with
   |true =>
    have H:=E9 (X:=X) s (1+lV m b l 2) t A (my R) F;refine AK.flags dn (x9F (lV m b l 2) v s t) (vU (Zu m b l v s) 2 9 10) rfl rfl rfl rfl
     ⟨.QN tok g,
     .QN tok g,
     eG.e1 rfl rfl rfl rfl (λc d=>by cases c<;>cases d<;>exact fJ (ds:=[]) tok g (σ':=aa _) rfl y),
     .Yw tok g B,
     .QN tok g,
     eG.q3 rfl rfl rfl (λa c d=>by cases a<;>cases c<;>cases d<;>exactλs a f hh b kk cs S i rest z hi hK=>qj.qn H rfl rfl rfl (jF.agg 1 0 3 rfl rfl (PM.Fx rfl λ_ h=>h)) rfl (by simp) rfl (λ_=>rfl) (λ_=>rfl) s a f hh b kk cs S i rest z hi λ_=>hK),
     .QN tok g,
     .QN tok g,
     .QN tok g,
     eG.e2 rfl rfl rfl rfl rfl (λa=>by cases a<;>exact fJ (ds:=[]) tok g (σ':=aa _) rfl ar),
     eG.e3 rfl rfl rfl rfl rfl (λa=>by cases a<;>exact fJ (ds:=[]) tok g (σ':=aa _) rfl ar),
     .QN tok g,ar⟩ ?_
    intro D o;show AK X _ _ _ _ _ (Zu m b l v s (D 2) (D 9) (D 10));rw[o 2 (by decide),o 9 (by decide),o 10 (by decide)];refine bF [(1000009,ab)] rfl ar ?_;exact out ⟨(s,v),A⟩ _ _ rfl (by simp)
   |false =>
    have O:=A.save (by_:=1+lV m b l 2) R (by omega) F;have H:=E8 (X:=X) 7 s (1+lV m b l 2) t (by decide) A.size A.num (my R) A.eT A.ne F;generalize g7 7 s (1+lV m b l 2) t=s' at *;refine AK.tq 3 2 0 (E:=43) (k:=2) (cl:=RK s.1) (by decide) rfl rfl rfl (λ_ h=>h) ?_;refine AK.QO dn (x9P (lV m b l 2) s s' t) (SO (Zt m b l s s') 2 9 10) (vW aj 5) af rfl rfl rfl rfl rfl
     ⟨.qe tok g,
     .qe tok g,
     hI.pre rfl rfl rfl rfl rfl (λc=>by cases c<;>exact fJ (ds:=[]) tok g (σ':=aa _) rfl y),
     .qo tok g B,
     .qe tok g,
     hI.Xi rfl rfl rfl rfl rfl (λj q=>by
      match q with
      |0=>exact .inr (.inr rfl)
      |1=>exact .inr (.inr rfl)
      |2=>exact .inr (.inr rfl)
      |3=>exact .inr (.inr rfl)
      |4=>exact .inr (.inr rfl)
      |5=>grind
      |6=>exact .inr (.inl rfl)
      |7=>exact .inr (.inl rfl)
      |8=>exact .inr (.inr rfl)
      |9=>exact .inr (.inr rfl)
      |10=>exact .inr (.inr rfl)
      |11=>exact .inr (.inr rfl)
      |q+12=>exact .inr (.inr rfl)) (λc=>by cases c<;>exact qj.nT H [3] rfl rfl rfl rfl (by simp) rfl rfl rfl (λ_=>rfl) rfl (λ_=>rfl)),
     .qs tok g,
     .qs tok g,
     .qs tok g,
     hI.WE rfl rfl rfl rfl (λQ a=>by cases Q<;>cases a<;>exact fJ (ds:=[]) tok g (σ':=aa _) rfl ar),
     hI.last rfl rfl rfl rfl rfl rfl (λv'=>fJ (ds:=[]) tok g (σ':=aa _) rfl ar),
     .qs tok g,ar⟩ ?_
    intro Q D V o;have V:Q.isSome=ab:=V.trans (o 5 (by decide));rcases Q with _|v'
    .cases V
    show AK X _ _ _ _ _ (Zt m b l s s' (aa v') (D 2) (D 9) (D 10));rw[o 2 (by decide),o 9 (by decide),o 10 (by decide)];refine bF [(1000009,ab)] rfl ar ?_;refine AK.G7 (φ':=f92 t n) (σ':=[kE m b (l+1:Nat),je,L5 v' s',Bh v' s',L6]) ?_ rfl ?_ rfl ?_
    .exact out ⟨(s',v'),O⟩ _ _ rfl (by simp)
    .simp
    .simp
  rintro⟨⟨s',v'⟩,O⟩;refine c9 rfl ar ?_;refine AK.cP (vk m b z (l+1) (by omega) G) [0] rfl (λ_=>rfl) ?_;rintro⟨p,hp⟩;refine c9 rfl ar ?_;refine AK.cP (Gv m b z (l+1+1+1) (by omega) G) [0] rfl (λ_=>rfl) ?_;rintro⟨⟨x,P⟩,hx,T,K⟩;simp only at hx T K;refine c9 rfl ar ?_;refine AK.cQ (xE t p x) [] rfl ?_;have Z:=EX (t:=t) (p:=p) (x:=x);obtain⟨C,r⟩:∃C,C=if(eg t p x).2=ab then(eg t p x).1 else t:=⟨_,rfl⟩
  have W:du C=ab:=by grind
  apply AK.join (f92 C n) [kE m b P,je,L5 v' s',Bh v' s',L6]
  .intro out;cases M:(eg t p x).2 with
   |true =>
    rw[M,br rfl]at r;rw[<-r];refine bF [(1000012,ab)] rfl ar ?_;exact out _ _ rfl (by simp)
   |false =>
    rw[M,a9 (by simp)]at r;rw[r]at out;refine bF [(1000012,ab)] rfl ar ?_;exact out _ _ rfl (by simp)
  clear r;refine c9 rfl ar ?_;refine AK.cP (gD m b z P 3 (by omega) G (by omega)) [0] rfl (λ_=>rfl) ?_;rintro⟨w,w0,w1⟩;by_cases hw:w=0
  .refine bF [(46,ab)] rfl (by simp[hw]) ?_;refine AK.cP (vk m b z (P+1) (by omega) G) [0] rfl (λ_=>rfl) ?_;rintro⟨p2,hp2⟩;have TT:=oe W;refine c9 rfl ar ?_;refine AK.cQ (Gw C p2 (by omega)) [] rfl ?_;refine c9 rfl ?_ (AK.aQ (s',v',lU C p2,n-1,P+1+1+1) rfl ?_ ?_ ?_ ?_)
   .simp only[au,bx];omega
   .simp only[au.cat,au,aF,aE];and_intros<;>first|exactλ_ _=>rfl|omega
   .simp
   .grind [Lg]
   grind
  .refine bF [(46,ae)] rfl (by simp[hw,bx];omega) (AK.aQ (s',v',C,n-1,P+1) rfl ?_ ?_ ?_ ?_)
   .simp only[au.cat,au,aF,aE];and_intros<;>first|exactλ_ _=>rfl|omega
   .simp
   .grind
   grind
 .refine bF [(19,ae)] rfl (by simp only[au,cd];omega) (AK.leaveD rfl rfl ?_);refine c9 rfl ar ?_;refine AK.lO ⟨(s,v,l),A,N,by grind⟩ [0,3] rfl rfl rfl rfl rfl rfl rfl rfl ?_ rfl rfl rfl rfl Vj;simp
end
end R1
def L9{α:Type}(d:α){P:Nat->α->Prop}:∀n:Nat,(∀i,i<n->∃x,P i x)->∃l:List α,l.length=n/\∀i,i<n->P i (l.getD i d)
 |0,_=>⟨[],rfl,λi hi=>absurd hi (gR _)⟩
 |n+1,h=>by obtain⟨l,a,b⟩:=L9 d n λi hi=>h i (by omega);obtain⟨x,c⟩:=h n (by omega);refine⟨l++[x],by grind,λi hi=>?_⟩;grind
inductive Fit (M:Mem) (b o:Nat) (u:aj) (x:Int):Prop
 |int (n:Int) (h:M b o=aa (.int .i64 n)) (hu:∀M',Rd M' u (.int .i64 x))
 |str (s:ByteArray) (h:M b o=aa (.string s)) (l:List UInt8) (hu:∀M',Rd M' u (.str l))
section
variable {o g m:Nat}{u:aj}{x:Int}
def Fit.fi(h:Fit M b o u x){n:Int}(a:M g m=aa v)(d:Rd M v (.int .i64 n)):∃c v',M.up b o u g m=aa v'/\(∀M',Rd M' v' (.int .i64 c))/\(c=n∨c=x):=by
 unfold Mem.up;by_cases e:g=b/\m=o
 .obtain⟨rfl,rfl⟩:=e;rw[br ⟨rfl,rfl⟩];cases h with
  |int _ _ f=>exact⟨x,u,rfl,f,.inr rfl⟩
  |str s h=>rw[h]at a;cases a;cases d
 .rw[a9 e,a];cases d with
  |int h=>exact⟨n,_,rfl,λ_=>.int h,.inl rfl⟩
def Fit.fs(h:Fit M b o u x){l:List UInt8}(a:M g m=aa v)(c:Rd M v (.str l)):∃l' v',M.up b o u g m=aa v'/\∀M',Rd M' v' (.str l'):=by
 unfold Mem.up;by_cases e:g=b/\m=o
 .obtain⟨rfl,rfl⟩:=e;rw[br ⟨rfl,rfl⟩];cases h with
  |int n h=>rw[h]at a;cases a;cases c
  |str _ _ l' hu=>exact⟨l',u,rfl,hu⟩
 .rw[a9 e,a];cases c with
  |str h1 h2=>exact⟨l,_,rfl,λ_=>.str h1 h2⟩
def Fit.fl(h:Fit M b o u x){t:Bool}(a:M g m=aa v)(c:Rd M v (.sl t k n es)):M.up b o u g m=aa v:=by
 unfold Mem.up;by_cases e:g=b/\m=o
 .obtain⟨rfl,rfl⟩:=e;cases h with
  |int n h=>rw[h]at a;cases a;cases c
  |str s h=>rw[h]at a;cases a;cases c
 grind
end
namespace R1
def two{P:Nat->α->Prop}{x y:α}(a:P 0 x)(b:P 1 y):∀j c,[x,y][j]?=aa c->P j c
 |0,_,h=>by grind
 |1,_,h=>by grind
def O5{o:Nat}{u:aj}{x:Int}(h:Fit M b o u x){e:List cv}(A:Rd M v (.sl ae 2 e.length (et.fn e))):∃d:List cv,d.length=e.length/\Rd (M.up b o u) v (.sl ae 2 d.length (et.fn d)):=by
 obtain⟨a,cap,f,n,rfl,D,H,r,J,k⟩:=A.Hd;obtain⟨l,p,E⟩:=L9 (0,[]) (P:=λi (y:cv)=>∀(j:Nat) (c:C),[C.int .i64 y.1,.str y.2][j]?=aa c->∃w,M.up b o u f (n+i*2+j)=aa w/\Rd (M.up b o u) w c) e.length λi hi=>by obtain⟨K,z,r0⟩:=k i hi 0 _ rfl;obtain⟨w1,G,F⟩:=k i hi 1 _ rfl;obtain⟨I,v0,t,q,_⟩:=h.fi z r0;obtain⟨l',v1,B,s⟩:=h.fs G F;exact⟨(I,l'),two (P:=λj c=>∃w,M.up b o u f (n+i*2+j)=aa w/\Rd (M.up b o u) w c) ⟨v0,t,q _⟩ ⟨v1,B,s _⟩⟩
 exact⟨l,p,by rw[p];exact .T6 D H r (λ_ _=>rfl) E⟩
structure VU(x:Int)(ps VV:List bc):Prop where
 len:VV.length=ps.length
 at':∀i,i<ps.length->(VV.getD i (0,[])).2.length=(ps.getD i (0,[])).2.length/\((VV.getD i (0,[])).1=(ps.getD i (0,[])).1∨(VV.getD i (0,[])).1=x)
def Ma{o:Nat}{u:aj}{x:Int}(h:Fit M b o u x){ps:List bc}(D:SA v ps M):∃d,VU x ps d/\SA v d (M.up b o u):=by
 obtain⟨a,cap,f,n,rfl,G,J,t,L,k⟩:=Rd.Hd D;obtain⟨l,r,p⟩:=L9 (0,[]) (P:=λi (y:bc)=>(y.2.length=(ps.getD i (0,[])).2.length/\(y.1=(ps.getD i (0,[])).1∨y.1=x))/\∀(j:Nat) (c:C),[C.int .i64 y.1,sP y][j]?=aa c->∃w,M.up b o u f (n+i*2+j)=aa w/\Rd (M.up b o u) w c) ps.length λi hi=>by obtain⟨N,B,r0⟩:=k i hi 0 _ rfl;obtain⟨w1,I,q⟩:=k i hi 1 _ rfl;obtain⟨K,v0,A,s,H⟩:=h.fi B r0;have F:=h.fl I q;obtain⟨e,E,z⟩:=O5 h q;exact⟨(K,e),⟨E,H⟩,two (P:=λj c=>∃w,M.up b o u f (n+i*2+j)=aa w/\Rd (M.up b o u) w c) ⟨v0,A,s _⟩ ⟨w1,F,z⟩⟩
 refine⟨l,⟨r,λi hi=>(p i hi).1⟩,?_⟩;show Rd _ _ (.sl ae 2 l.length (cP.fn l));rw[r];exact .T6 G J t (λ_ _=>rfl) λi hi=>(p i hi).2
structure A9(s:bo):Prop where
 p:∀p∈s.1,p.2.length<=4/\0<=p.1/\p.1<=99
 pl:s.1.length<=20
 ex:∃ps,D7 (ps,s.2)
def D7.Vk{s:bo}(h:D7 s):A9 s:=⟨λp a=>by have h1:=(h.p p a).len;have h2:=(h.p p a).no;omega,h.pl,s.1,h⟩
def A9.Zv{s:bo}(h:A9 s){a:List bc}(c:VU 0 s.1 a):A9 (a,s.2):=by
 refine⟨λp d=>?_,by rw[c.len];exact h.pl,h.ex⟩;obtain⟨i,hi,rfl⟩:=ly.1 d;have b:i<s.1.length:=by rw[<-c.len];exact hi
 have h1:=c.at' i b;have h2:=h.p _ (gh b (0,[]));grind
def A9.sub{s:bo}(h:A9 s){a:List bc}(c:∀p∈a,p∈s.1)(hl:a.length<=s.1.length):A9 (a,s.2):=⟨λp b=>h.p p (c p b),dT hl h.pl,h.ex⟩
def A9.size{s:bo}(h:A9 s):iS s:=by obtain⟨ps,c⟩:=h.ex;have a:=c.size;have h1:=h.pl;exact⟨by omega,λp b=>by have:=(h.p p b).1;omega,a.sn,a.s2,a.h⟩
def A9.num{s:bo}(h:A9 s):HB s:=by obtain⟨ps,c⟩:=h.ex;have a:=c.num;exact⟨λp b=>by have:=(h.p p b).2;omega,a.s,a.h⟩
def H9{no k:Int}{t:List bC}(b:du t=ab):(b5 (kR no k t).2).length<=240:=by have a:=pF.1 b;refine EZ ⟨by simpa[kR]using a.2.2.2,λy e=>?_⟩;obtain⟨f,c,rfl⟩:=jC.1 e;have d:=(a.1 f c).2;simp only[eh,bR,bq]at d;have h:=n8 f.2;show((pieces f.2).map _).length<=40;grind
def A9.an{s:bo}(h:A9 s):(gv s.2.1).length<=4800:=by
 obtain⟨ps,a⟩:=h.ex;have d:=a.sl;have e:(gv s.2.1).length<=240*s.2.1.length:=oi λx c=>by obtain⟨no,t,_,_,b,rfl⟩:=(a.s x c).ex;exact H9 b
 grind
def A9.smT{s:bo}(h:A9 s):EU s:=by
 have a:=h.size;have h1:=h.pl;have h2:=h.an;have c:(bD s.1).length<=4*s.1.length:=oi λp b=>by rw[mJ];exact(h.p p b).1
 exact⟨⟨a.p,a.s2,a.sn,by omega⟩,a.p2,by omega⟩
end R1
def eG.Zw{X:Cx P}{x:Nat->D}{e:Bool->Bool->Bool->Bool->List bm}{j f g d:Nat}(h1:av j i=ae)(h2:av f i=ae)(l:av g i=ae)(m:av d i=ae)(n:fT all d i=ab)(h:∀a b c,OA X N all o (j8 all φ x i) (e a b c ae) (x i) (e a b c ae)):eG X N all φ x (r7 e j f g d) i o:=by intro D p k;grind[ra]
namespace R1
variable {X:Cx ag}[X.im]
abbrev SpI(k:Nat):={q:bo×Nat // A9 q.1/\k<=q.2/\q.2<=k+1100}
def A9.del{s:bo}(h:A9 s)(i:Nat):A9 (s.1.take i++s.1.drop (i+1),s.2):=h.sub (λp a=>by grind) (by grind)
def qz{b o cap:Nat}{ps:List bc}(h:SA (.slice (aa ⟨b,o,af⟩) ps.length cap) ps M)(hi:i<ps.length):(∃n,M b (o+i*2)=aa (.int .i64 n))/\∃w,M b (o+i*2+1)=aa w/\Rd M w (sP (ps.getD i (0,[]))):=by obtain⟨a,c2,j,m,e,_,_,f,_,c⟩:=Rd.Hd h;cases e;cases f (by omega);obtain⟨k,l,r0⟩:=c i hi 0 _ rfl;obtain⟨w1,g,d⟩:=c i hi 1 _ rfl;refine⟨?_,w1,g,d⟩;cases r0;grind
theorem GA{c o cap:Nat}{b:List cv}(h:Rd M (.slice (aa ⟨c,o,af⟩) b.length cap) (.sl ae 2 b.length (et.fn b)))(hi:0<b.length):∃s,M c (o+0*2+1)=aa (.string s):=by obtain⟨a,c2,i,k,e,_,_,f,_,g⟩:=h.Hd;cases e;cases f hi;obtain⟨w1,j,d⟩:=g 0 hi 1 _ rfl;cases d;grind
abbrev nA(s:bo)(i:Nat):Nat:=cD s.1.length (aa (i:Int))-cD 0 af
abbrev yi(s:bo)(i:Nat):Nat:=cD s.1.length af-cD 0 (aa ((i:Int)+1))
abbrev D2(s:bo):Nat->List C:=mN (cD 0 af) (cP.fn s.1)
abbrev zB(s:bo)(i:Nat):Nat->List C:=mN (cD 0 (aa ((i:Int)+1))) (cP.fn s.1)
abbrev bf1(s:bo)(i:Nat):bm:=.buf 43 2 (0+nA s i) (cT 0 (λi=>([]:List (List C)).getD i []) (D2 s))
abbrev VW(s:bo)(i:Nat):bm:=.buf 43 2 (0+nA s i+yi s i) (cT (0+nA s i) (cT 0 (λi=>([]:List (List C)).getD i []) (D2 s)) (zB s i))
def Zx(m:Nat)(b:Nat->Int)(k:Int)(s:bo)(i:Nat)(a c d e:Bool):List bm :=
 match a,c,d,e with
 |true,ab,ab,ab=>[kE m b k,je,yh,.cells 27 [.bp 4 (.sl (0+nA s i+yi s i) 2 0 (0+nA s i+yi s i)),.c (Ob s.2.1),.c (Oc s.2.2)],VW s i]
 |true,ab,ab,ae=>[kE m b k,je,yh,sv s,VW s i]
 |true,ab,ae,_=>[kE m b k,je,yh,sv s,VW s i]
 |true,ae,_,_=>[kE m b k,je,yh,sv s,bf1 s i]
 |false,_,_,_=>[kE m b k,je,yh,sv s]
abbrev x9S(s:bo)(i j:Nat):D :=
 [.e (.one (.c (.sl ab 2 0 λi=>([]:List (List C)).getD i []))),.e (.one (.ptr 3 0)),cP.sl s.1,dI i,.e (.one (.c (.sl ae 2 (nA s i) (D2 s)))),.e (.one (.bp 4 (.sl (0+nA s i) 2 0 (0+nA s i)))),
  .e (.one (.ptr 3 0)),cP.sl s.1,dI i,dI ((i:Int)+1),.e (.one (.c (.sl ae 2 (yi s i) (zB s i)))),.e (.one (.bp 4 (.sl (0+nA s i+yi s i) 2 0 (0+nA s i+yi s i)))),.e (.one (.ptr 3 0)),.any].getD j .any
set_option maxRecDepth 20000 in
def Dk(m:Nat)(b:Nat->Int)(J:Bytes b)(k:Nat)(Z:k<=40000)(O:m<=1048576):
  dO (ι:=SpI k) X 22 [.e (.one (.ptr 0 0))] [kE m b k] (λq=>nc q.1.1) (λq=>[kE m b q.1.2]):=by
 refine dO.oz tok Tryz.func22 rfl rfl rfl λhf=>?_;refine bw rfl ar ?_;refine AK.cP (Dj m b J k Z O) [0] rfl (λ_=>rfl) ?_;rintro⟨⟨s,v,k1⟩,y,G,B⟩;simp only at y G B;refine aX [(1000002,ab)] rfl ar ?_;have hpl:=y.pl;by_cases V:s.1.length=0
 .refine AK.tq 2 3 0 (E:=43) (k:=2) (cl:=RK s.1) (by decide) rfl rfl rfl (λ_ h=>h) ?_;refine aX [(10,ab)] rfl (by simp[V]) ?_;refine AK.lO ⟨(s,k1),y.Vk,G,by grind⟩ [0] rfl rfl rfl rfl rfl rfl rfl rfl ?_ rfl rfl rfl rfl hU;simp
 refine AK.fact (PM.of (l:=2) (p:=∃a cap b' o,v=.slice a s.1.length cap/\(0<s.1.length->a=aa ⟨b',o,af⟩)) rfl λM f=>?_) ?_
 .grind [Rd.Hd]
 rintro⟨a,cap,b',o,rfl,ha⟩;obtain rfl:=ha (by omega);refine aX [(10,ae)] rfl (by simp[V];omega) ?_;refine AK.cP (gD m b J k1 s.1.length (by omega) O (by omega)) [0] rfl (λ_=>rfl) ?_;rintro⟨i,i0,t⟩;obtain⟨i,rfl⟩:=Int.eq_ofNat_of_zero_le i0;have t:i<s.1.length:=by omega
 refine bw rfl ar ?_;refine AK.cP (gD m b J (k1+1) 24 (by omega) O (by omega)) [0] rfl (λ_=>rfl) ?_;rintro⟨w,w0,w1⟩;refine aX [(1000006,ab)] rfl ar ?_;have H:0<(s.1.getD i (0,[])).2.length:=y.ne _ (gh t (0,[]));by_cases A:w=0
 .have o4:au (gA s.1.length af (aa (i:Int))):=by simp only[gA,au];omega
  have o9:au [bx .i64 ((i:Int)+1)]:=by simp only[au,bx];omega
  have Q:au (gA s.1.length (aa ((i:Int)+1)) af):=by simp only[gA,au];omega
  have Y:nA s i=i:=by show((i:Int)).toNat-0=i;omega
  have e2:yi s i=s.1.length-(i+1):=by show s.1.length-((i:Int)+1).toNat=_;omega
  have o5:au [(0+nA s i)*i43.bytes<=140737488355328]:=by rw[show i43.bytes=32 from rfl,Y];simp only[au];omega
  have N:au [0+nA s i=0+nA s i,0+nA s i=0+nA s i,(0+nA s i+yi s i)*i43.bytes<=140737488355328]:=by refine⟨rfl,rfl,?_⟩;rw[show i43.bytes=32 from rfl];simp only[au];omega
  refine AK.tq 2 3 0 (E:=43) (k:=2) (cl:=RK s.1) (by decide) rfl rfl rfl (λ_ h=>h) ?_;refine aX [(20,ab),(1000007,ab)] rfl (by simp[A]) ?_;refine AK.flags dn (x9S s i) (r7 (Zx m b (k1+1+1:Nat) s i) 5 11 12 13) rfl rfl rfl rfl
   ⟨.TC tok bG.nil,
   .TC tok bG.nil,
   eG.Zw rfl rfl rfl rfl rfl (λa b c=>by cases a<;>cases b<;>cases c<;>exact OA.dw tok bG.nil rfl),
   .TC tok bG.nil,
   .VF tok bG.nil o4,
   eG.c1 rfl rfl rfl rfl rfl rfl (fJ (ds:=[(3000026,ab)]) tok bG.nil (σ':=aa _) rfl o5),
   .TC tok bG.nil,
   eG.Zw rfl rfl rfl rfl rfl (λa b c=>by cases a<;>cases b<;>cases c<;>exact OA.dw tok bG.nil rfl),
   .TC tok bG.nil,
   .VF tok bG.nil o9,
   .VF tok bG.nil Q,
   eG.c2 rfl rfl rfl rfl rfl rfl (fJ (ds:=[]) tok bG.nil (σ':=aa _) rfl N),
   eG.c3 rfl rfl rfl rfl rfl rfl (OA.dw tok bG.nil rfl),
   eG.c4 rfl rfl rfl rfl rfl rfl (fJ (ds:=[]) tok bG.nil (σ':=aa _) rfl ar),ar⟩ ?_
  intro D r;show AK X _ _ _ _ _ (Zx m b (k1+1+1:Nat) s i (D 5) (D 11) (D 12) (D 13));rw[r 5 (by decide),r 11 (by decide),r 12 (by decide),r 13 (by decide)];refine AK.G7 (φ':=[(2,.e (.one (.ptr 1 0))),(3,.e (.one (.ptr 3 0)))]) (σ':=[kE m b (k1+1+1:Nat),je,yh,.cells 27 [.bp 4 (.sl (0+nA s i+yi s i) 2 0 (0+nA s i+yi s i)),.c (Ob s.2.1),.c (Oc s.2.2)],VW s i]) ?_ rfl (by simp) rfl (by simp);refine AK.rT 4 rfl rfl rfl (by simp) (by simp) ?_;refine bw rfl ar ?_;refine AK.lO ⟨((s.1.take i++s.1.drop (i+1),s.2),k1+1+1),y.Vk.del i,by grind,by grind⟩ [0] rfl rfl rfl rfl rfl rfl rfl rfl ?_ rfl rfl rfl rfl hU;simp only[au.cat,au];refine⟨⟨by grind,λj hj=>?_⟩,⟨ar,.same⟩,⟨ar,.same⟩,ar⟩;show cT (0+nA s i) (cT 0 (λi=>([]:List (List C)).getD i []) (D2 s)) (zB s i) j=_;rw[Y,bA];simp only[cT,D2,zB,mN,cD,bA,gR,bS,kZ,kh.fn,x8,show((i:Int)+1).toNat=i+1 by omega];grind
 by_cases I:w=1
 .refine aX [(20,ae),(35,ab)] rfl (by simp[I];omega) ?_;refine AK.hand _ _ rfl rfl (jR.Q9 tok 2 rfl rfl (λ_=>rfl) rfl rfl (λM f=>?_)) λw1=>?_
  .obtain⟨_,w,g,q2⟩:=qz f t;exact⟨w,g,q2.cell⟩
  refine AK.Pe (PM.of (l:=2) (p:=∃U T c2,w1=.slice (aa ⟨U,T,af⟩) (s.1.getD i (0,[])).2.length c2) rfl λM f=>?_) ?_
  .obtain⟨_,w,g,q2⟩:=qz f.1 t;cases g.symm.trans f.2;grind[Rd.Hd]
  rintro⟨U,T,c2,rfl⟩;refine bw rfl (by simp only[au];omega) ?_;refine AK.hand _ _ rfl rfl (jR.F2 tok 2 rfl rfl rfl rfl rfl rfl rfl (λM f=>?_)) ?_
  .obtain⟨_,w,g,q2⟩:=qz f.1 t;cases g.symm.trans f.2;grind[GA]
  rintro⟨u,P⟩;refine aX [(1000012,ab)] rfl ar ?_;refine AK.IG (ι:={d:List bc // VU 0 s.1 d}) 2 (λq=>PM (SA (.slice (aa ⟨b',o,af⟩) s.1.length cap) q.1)) rfl (λ_ ch R=>?_) ?_
  .obtain⟨S,g2,M,f,W⟩:=R;obtain⟨_,w,g,q2⟩:=qz f.1 t;cases g.symm.trans f.2;obtain⟨s0,K⟩:=GA q2 H;obtain⟨d,L,p2⟩:=Ma (x:=0) (Fit.str s0 K _ P) f.1;exact⟨⟨d,L⟩,S,g2,by grind⟩
  rintro⟨d,z⟩;refine AK.tq 2 3 0 (E:=43) (k:=2) (cl:=RK d) (by decide) rfl rfl rfl (λ_ h=>by grind) ?_;refine bw rfl ar ?_;refine AK.lO ⟨((d,s.2),k1+1+1),y.Vk.Zv z,by grind,by grind⟩ [0] rfl rfl rfl rfl rfl rfl rfl rfl ?_ rfl rfl rfl rfl hU;simp
 by_cases F:w=2
 .refine aX [(20,ae),(35,ae),(45,ab)] rfl (by simp[F];omega) ?_;refine AK.hand _ _ rfl rfl (jR.F2 tok 2 rfl rfl rfl rfl rfl rfl rfl (λM f=>?_)) ?_
  .obtain⟨⟨n,g⟩,_⟩:=qz f t;exact⟨_,g⟩
  rintro⟨u,P⟩;refine aX [(1000012,ab)] rfl ar ?_;refine AK.IG (ι:={d:List bc // VU 0 s.1 d}) 2 (λq=>PM (SA (.slice (aa ⟨b',o,af⟩) s.1.length cap) q.1)) rfl (λ_ ch R=>?_) ?_
  .obtain⟨S,g2,M,f,W⟩:=R;obtain⟨⟨n,g⟩,_⟩:=qz f t;obtain⟨d,L,p2⟩:=Ma (x:=0) (Fit.int n g P) f;exact⟨⟨d,L⟩,S,g2,by rw[W];exact p2⟩
  rintro⟨d,z⟩;refine AK.tq 2 3 0 (E:=43) (k:=2) (cl:=RK d) (by decide) rfl rfl rfl (λ_ h=>by grind) ?_;refine bw rfl ar ?_;refine AK.lO ⟨((d,s.2),k1+1+1),y.Vk.Zv z,by grind,by grind⟩ [0] rfl rfl rfl rfl rfl rfl rfl rfl ?_ rfl rfl rfl rfl hU;simp
 refine AK.tq 2 3 0 (E:=43) (k:=2) (cl:=RK s.1) (by decide) rfl rfl rfl (λ_ h=>h) ?_;refine aX [(20,ae),(35,ae),(45,ae)] rfl (by simp[A,I,F]) ?_;refine AK.lO ⟨(s,k1+1+1),y.Vk,by grind,by grind⟩ [0] rfl rfl rfl rfl rfl rfl rfl rfl ?_ rfl rfl rfl rfl hU;simp
end R1
namespace R1
section
variable {X:Cx ag}
def O8(l:List Int)(n:Int):Ev X 12 [cI.sl l,dI n] [] (dB (l.contains n)) []:=by
 refine Ev.bQ Tryz.func12 rfl λc=>?_;have f:=c.sl 0 rfl;refine bw rfl ar ?_;refine AK.bX 0 (λi=>i<=l.length/\∀j,j<i->l.getD j 0≠n) (λi:Nat=>[(0,cI.sl l),(1,dI n),(5,dI i)]) (λ_=>[]) (λi=>l.length-i) 0 rfl (by simp) rfl ar rfl ⟨by omega,by omega⟩ ?_;rintro i ⟨hi,a⟩;by_cases h:i<l.length
 .have b:l.getD (i:Int).toNat cI.bP=l.getD i 0:=rfl;by_cases d:l.getD i 0=n
  .have:l.contains n=ab:=by grind
   rw[this];refine aX [(9,ab),(17,ab)] rfl ?_ (AK.eY (ck.zero rfl));simp only[au,b,bq,gy,aF,aE];and_intros<;>first|exact d|omega
  .refine aX [(9,ab),(17,ae)] rfl ?_ (AK.aQ (i+1) rfl ?_ ar ⟨h,λj e=>?_⟩ (by omega))
   .simp only[au,b,bx,bq,eW,aF,aE];and_intros<;>first|grind|omega
   .simp
   grind
 .have:l.contains n=ae:=by grind[List.getElem_of_mem]
  rw[this];refine aX [(9,ae)] rfl (by simp only[au,cd];omega) (AK.leaveD rfl rfl ?_);exact bw rfl ar (AK.bn rfl)
abbrev Qa:dz:=n6 (aL cI) aI (λl n=>dB (l.contains n)) λ_ _=>[]
def Vn:dK X 12 Qa:=.qK λl n _=>O8 l n
def j7(w:dN)(a:iS w.1):Ev X 11 [CZ w,CZ w] [] (dB ab) []:=by refine Ev.bQ Tryz.func11 rfl λc=>?_;have b:bG X [(18,pt [nc w.1,nc w.1] (dB ab)),(35,RS)]:=.cons (rh (rl w.1 a)) (.cons UN .nil);refine bt b [(10,ab),(17,ab)] rfl ?_ (AK.bn rfl);simp[cI.aJ];exact⟨rfl,rfl,rfl⟩
structure zj(l:List cg)(ns:List Int)(i:Nat)(all:List Int):Prop where
 nd:all.Nodup
 mem:∀n,n∈all↔n∈l.flatMap c6∨n∈ns.take i
def zj.len{l:List cg}{all:List Int}(h:zj l [] 0 all):all.length=(cy l).length:=by
 have hm:=qA l;have e:∀n,n∈all↔n∈cy l:=λn=>by rw[h.mem,iC];simp[oh]
 exact uS (qN _ _ h.nd λn a=>(e n).1 a) (qN _ _ (hm.imp λh=>by omega) λn a=>(e n).2 a)
def zj.le{l:List cg}{ns:List Int}{all:List Int}(h:zj l ns i all):all.length<=(l.flatMap c6).length+ns.length:=by
 have:=qN all (l.flatMap c6++ns) h.nd λn a=>by
  rcases(h.mem n).1 a with h|h
  .exact List.mem_append_left _ h
  .exact List.mem_append_right _ (jy h)
 simpa using this
def Ih(s:bo)(B:iM s)(H:s.2.1.length<=4000000)(u:(gv s.2.1).length<=4000000):Ev X 15 [nc s] [] (dI (cy s.2.1).length) []:=by
 refine Ev.bQ Tryz.func15 rfl λG=>?_;have c:bG X [(12,Qa)]:=.cons Vn .nil;have y:=xM s.2.1;refine aR c [(1000002,ab)] rfl ar ?_;refine AK.g6 3 3 1 rfl rfl ?_;refine bZ c rfl ar ?_;refine AK.bX 2 (λq:Nat×List Int=>q.1<=s.2.1.length/\zj (s.2.1.take q.1) [] 0 q.2) (λq=>[(1,.e (.one (.ptr 0 0))),(3,.e (.one (.vec 1 1 q.2.length (cI.fn q.2)))),(4,dI q.1)]) (λq=>[sv s,.vec 3 1 q.2.length (cI.fn q.2)]) (λq=>s.2.1.length-q.1) (0,[]) rfl (by simp) rfl (by simp) rfl ⟨by simp,⟨by simp,by simp⟩⟩ ?_;rintro⟨i,all⟩ ⟨hi,p⟩;simp only at hi p;by_cases h:i<s.2.1.length
 .have E:s.2.1.getD i ee.bP=s.2.1.getD i (0,[]):=rfl;have A:=B _ (gh h (0,[]));have F:=tG h;have m:(s.2.1.take (i+1)).flatMap c6=(s.2.1.take i).flatMap c6++c6 (s.2.1.getD i (0,[])):=by rw[bu h (0,[])];simp
  have C:((s.2.1.take i).flatMap c6).length+(c6 (s.2.1.getD i (0,[]))).length<=(s.2.1.flatMap c6).length:=by
   have D:s.2.1.flatMap c6=(s.2.1.take (i+1)).flatMap c6++(s.2.1.drop (i+1)).flatMap c6:=by rw[<-List.flatMap_append,jw]
   rw[<-cf,<-m,D,cf];omega
  generalize s.2.1.getD i (0,[])=x at *;refine aR c [(12,ab)] rfl (by simp;omega) ?_;simp only[bM,E];refine AK.cQ (sH x A.1 (by omega)) [] rfl ?_;refine bZ c rfl ar ?_;generalize c6 x=ns at *;refine AK.bX 2 (λq:Nat×List Int=>q.1<=ns.length/\zj (s.2.1.take i) ns q.1 q.2) (λq=>[(1,.e (.one (.ptr 0 0))),(3,.e (.one (.vec 1 1 q.2.length (cI.fn q.2)))),(4,dI i),(5,cI.sl ns),(6,dI q.1)]) (λq=>[sv s,.vec 3 1 q.2.length (cI.fn q.2)]) (λq=>ns.length-q.1) (0,all) rfl (by simp) rfl (by simp) rfl ⟨by simp,⟨p.nd,by simpa using p.mem⟩⟩ ?_;rintro⟨j,g⟩ ⟨w,d⟩;simp only at w d;have v:=d.le;by_cases o:j<ns.length
  .have f:ns.getD (j:Int).toNat cI.bP=ns.getD j 0:=rfl;have l:=bu o 0;have e:=cI.cp g (ns.getD j 0);by_cases k:g.contains (ns.getD j 0)=ab
   .refine aR c [(24,ab),(33,ae)] rfl ?_ (AK.aQ (j+1,g) rfl (by simp) (by simp) ⟨o,⟨d.nd,λn=>?_⟩⟩ (by simp only;omega))
    .simp[-ai,-List.contains_eq_mem,f,show cI.bP=0 from rfl,o,k,cI.list_fn,cI.aJ,bx];omega
    .rw[l,d.mem,eJ,gN];have:=(d.mem (ns.getD j 0)).1 (by simpa using k);grind
   .have z:ns.getD j 0∉g:=by simpa[-ai]using k
    have k:g.contains (ns.getD j 0)=ae:=by simpa using k
    have r:(g++[ns.getD j 0]).Nodup:=List.nodup_append.2 ⟨d.nd,by simp,λa u b t e=>z (by rw[gN]at t;rw[<-t,<-e];exact u)⟩;refine aR c [(24,ab),(33,ab)] rfl ?_ (AK.aQ (j+1,g++[ns.getD j 0]) rfl ?_ ?_ ⟨o,⟨r,λn=>?_⟩⟩ (by simp only;omega))
    .simp[-ai,-List.contains_eq_mem,f,show cI.bP=0 from rfl,o,k,cI.list_fn,cI.aJ,bx,show i3.bytes=8 from rfl];omega
    .simp only[au.cat,au,f,cf,ey,aF,aE];and_intros<;>first|exact cw.same|exact e|rfl|omega
    .simp only[au.cat,au,f,cf,ey,aF,aE];and_intros<;>first|exact cw.same|exact e|rfl|omega
    .rw[l,eJ,eJ,gN,d.mem];grind
  obtain rfl:j=ns.length:=by omega
  refine aR c [(24,ae)] rfl (by simp) (AK.leaveD rfl rfl ?_);refine bZ c rfl (by simp[bx];omega) (AK.aQ (i+1,g) rfl (by simp) (by simp) ⟨h,⟨d.nd,λn=>?_⟩⟩ (by simp only;omega));rw[m,d.mem,cC,eJ];simp
 obtain rfl:i=s.2.1.length:=by omega
 rw[cC]at p;refine aR c [(12,ae)] rfl (by simp) (AK.leaveD rfl rfl ?_);refine bZ c rfl ar (AK.bn rfl ?_);simp[p.len]
abbrev GF:dz:=kB Ki (λs=>dI (cy s.2.1).length) λs=>[iM s,s.2.1.length<=4000000,(gv s.2.1).length<=4000000]
def Mj:dK X 15 GF:=.oL λs h=>Ih s h.1 h.2.1 h.2.2
structure Vo(s:bo):Prop where
 sz:iS s
 sm:EU s
 nu:HB s
 an:(gv s.2.1).length<=4800
abbrev DrB:={q:bo×List Int // Vo q.1/\q.2.length<=5}
def ou(m:Nat)(b:Nat->Int)(g:Bytes b)(j:m<=1048576):dO (ι:=DrB) (Cx.beside ag) 8 [.e (.one (.c (.sl ae 1 m (yY b))))] [] (λq=>.fz [.one (.c (.int .i64 7)),.agg [.c (RK q.1.1.1),.c (Ob q.1.1.2.1),.c (Oc q.1.1.2.2)],.one (.c (.sl ae 1 q.1.2.length (cI.fn q.1.2)))]) (λ_=>[]):=by refine dO.IL Tryz.func8 rfl rfl (dM rfl) (AK.of_code ?_);refine bw rfl ar ?_;refine AK.cP (OL m b j) [] rfl (λ_=>rfl) ?_;rintro⟨f,hm'⟩;refine bw rfl ar ?_;refine AK.cP (Dk f b g 0 (by omega) hm') [1] rfl (λ_=>rfl) ?_;rintro⟨⟨s,k⟩,a,_,l⟩;simp only at a l;refine bw rfl ar ?_;refine AK.cP (Ia f b g k (by omega) hm') [1] rfl (λ_=>rfl) ?_;rintro⟨i,d⟩;refine bw rfl ar ?_;refine AK.freeze 3 0 rfl rfl rfl ?_;refine AK.iv (λ_ _ _ h=>⟨⟨(s,i),⟨a.size,a.smT,a.num,a.an⟩,d⟩,h⟩) ?_;refine AK.zR tok [] rfl ?_ rfl rfl rfl uD;simp
end
def GH{k:Int}{s:bo}{keep:List Int}(h:rr k s):mQ k ((s.1,s.2.1.filter λx=>keep.contains x.1,s.2.2),cy (s.2.1.filter λx=>keep.contains x.1),s.1.map (·.1)):=by refine⟨⟨h.pk,h.pa,h.nd,λx b=>h.sn x (hZ.1 b).1,h.sa.filter _,h.key,h.log,h.len⟩,λx b n a=>iC.2 ⟨x,b,a⟩,λn a=>?_,List.pairwise_map.2 h.pa⟩;obtain⟨p,c,rfl⟩:=jC.1 a;exact⟨p,c,rfl⟩
def tO:∀{l:List cg}{x:cg},(l.Pairwise λa b=>a.1<b.1)->x∈l->l.find? (λy=>y.1==x.1)=aa x
 |y::l,x,h,c=>by
  obtain⟨d,e⟩:=lz.1 h;rw[List.find?_cons];rcases dC.1 c with rfl|c
  .simp
  .have:=d x c;rw[show(y.1==x.1)=ae by simp;omega];exact tO e c
def Ms{k:Int}{x:cg}{ps:List bc}{n:Int}(h:(cj k x ps).isSome=ab)(c:n∈b5 x.2):n∈bD ps:=by
 obtain⟨y,g,c⟩:=pV.1 c;unfold cj at h;split at h
 .rename_i d;simp only[bR,List.all_eq_true]at d;have b:=d.1.2 y g;unfold fileOf at b;cases a:dE k ps y.2 with
  |none=>rw[a]at b;cases b
  |some l =>
   unfold dE at a;split at a
   .rename_i e;have:=List.all_eq_true.1 e n c;obtain⟨p,f⟩:=Option.isSome_iff_exists.1 this;exact(Fj f).2.2
   .cases a
 .cases h
abbrev iy(s:bo)(keep:List Int):List cg:=s.2.1.filter λx=>keep.contains x.1
abbrev l5(s:bo)(keep:List Int):bo:=(iD (cy (iy s keep)) s.1,iy s keep,s.2.2)
abbrev mS(s:bo)(keep:List Int):dN:=((s.1,iy s keep,s.2.2),cy (iy s keep),s.1.map (·.1))
section
variable {k:Int}{s:bo}{keep:List Int}(h:rr k s)
include h
def nC:yj k s keep=(mS s keep,ab):=br (jl.2 h)
def sM:Mr k (mS s keep)=(l5 s keep,ab):=by have e:=tP h (iy s keep) (cy (iy s keep));unfold Mr;rw[br (um.2 (GH h))];simp only[mJ];rw[e]
def Fg:rr k (l5 s keep):=by
 have:=((GH (keep:=keep) h).xN s.1.length).torr
 rwa [tP h]at this
def Dm{n:Int}(a:n∈cy (iy s keep)):n∈bD s.1:=by obtain⟨x,b,a⟩:=iC.1 a;exact Ms (h.sn x (hZ.1 b).1).2 a
def Mt:(bD (l5 s keep).1).length=(cy (iy s keep)).length:=by
 rw[ko];have d:=(qA (iy s keep)).imp (S:=λa b=>a≠b) λh=>by omega
 refine uS (qN _ _ (h.nd.filter _) λn c=>by simpa using(hZ.1 c).2) (qN _ _ d λn c=>hZ.2 ⟨Dm h c,by simpa using c⟩)
def Mv{y:cg}(a:y∈iy s keep):eR k s y.1=eR k (l5 s keep) y.1:=by
 have g:s.2.1.find? (λx=>x.1==y.1)=aa y:=tO h.sa (hZ.1 a).1;have b:(l5 s keep).2.1.find? (λx=>x.1==y.1)=aa y:=tO (h.sa.filter _) a;simp only[eR,g,b];refine pG λn i=>?_;have d:n∈cy (iy s keep):=iC.2 ⟨y,a,i⟩;have:∀(L:List Int) (ps:List bc),cY k (L.foldl (λps no=>eN no (cy (iy s keep)) ps) ps) n=cY k ps n:=λL=>by
  induction L with
  |nil=>exactλ_=>rfl
  |cons no L f=>exactλps=>(f _).trans (rv d ps)
 have e:=tP h (iy s keep) (cy (iy s keep));obtain⟨_,_,_,c⟩:=xO (w:=mS s keep) (j:=s.1.length) (by simp);rw[<-this ((mS s keep).2.2.take s.1.length) s.1,<-c,e]
def Ie:l5 (l5 s keep) keep=l5 s keep:=by
 have c:iy (l5 s keep) keep=iy s keep:=by simp[List.filter_filter]
 have a:∀p∈(l5 s keep).1,p.2≠[]:=λp d=>by have:=((Fg h).pk p d).len.1;grind
 show(iD (cy (iy (l5 s keep) keep)) _,iy (l5 s keep) keep,_)=_;rw[c,xL (λn b=>by rw[ko]at b;simpa using(hZ.1 b).2) a]
end
def Dn{ms:List Int}{ps:List bc}{q:bc}(h:q∈iD ms ps):∃p∈ps,q=cA p ms:=by unfold iD at h;obtain⟨p,a,rfl⟩:=jC.1 (hZ.1 h).1;exact⟨p,a,rfl⟩
def Dp(ms:List Int)(ps:List bc):(iD ms ps).length<=ps.length:=by unfold iD;exact dT (kH _ _) (by simp)
def lW{s:bo}(h:iS s)(keep:List Int):iS (mS s keep).1 :=
 ⟨h.p,h.p2,dT (kH _ _) h.sn,λx a=>h.s2 x (hZ.1 a).1,h.h⟩
def pK{s:bo}(h:iS s)(keep:List Int):iS (l5 s keep):=by refine⟨dT (Dp _ _) h.p,λq b=>?_,dT (kH _ _) h.sn,λx c=>h.s2 x (hZ.1 c).1,h.h⟩;obtain⟨p,a,rfl⟩:=Dn b;exact dT (kH _ _) (h.p2 p a)
def Mw{s:bo}(h:EU s)(b:iS s)(keep:List Int):EU (mS s keep).1 :=
 ⟨⟨h.pN,λx a=>h.sm x (hZ.1 a).1,dT (kH _ _) h.sN,dT (ll _ _) h.aN⟩,h.pk,h.nm⟩
def vl{s:bo}(h:EU s)(a:iS s)(keep:List Int):VT (mS s keep):=by refine⟨Mw h a keep,?_,by have:=a.p;simpa using this⟩;have:=tE (iy s keep) _ (ba _);rw[cC]at this;have b:=ll s.2.1 λx=>keep.contains x.1;have:=h.aN;exact dT ‹_› (dT b this)
def Ff{s:bo}(h:EU s)(b:iS s)(keep:List Int):EU (l5 s keep):=by have a:=pK b keep;refine⟨⟨a.p,a.s2,a.sn,(Mw h b keep).aN⟩,a.p2,?_⟩;rw[ko];exact dT (kH _ _) h.nm
end R1
end Go.AM
