/- Part 6. No condition. -/
import Derived.Test.YtljeodbenlfgfaaGreatDoorA5
import Derived.Conc.CrowdComm
import Derived.Conc.SmallLaws
import Derived.Conc.EventLaws
set_option linter.all false
set_option maxHeartbeats 8000000
open Go.Proofs
open Go.Proofs.Tryz
open List renaming length → c, range → aA, getD_eq_getElem?_getD → ak, all_eq_true → aY
open Go renaming Value → Y, TypeId → ao, World → au, Frame → aJ, Operand → ae, Program → aE, Goroutine → ai, Oper → ap
open Option renaming some → f, none → n
open Bool renaming true → l, false → u
open Nat renaming ble → ay
open Go.Proofs.Tryz renaming prog → V
namespace Go.AM
variable {j z:Nat}{h:Int}{d i e t:Nat}{W:ao}{H:Y->(Nat->Option Obj)->Prop}{L:Array Bool}{bA:Mem}{D:Nat}{P:aE}{bq:ai->a5->Prop}{q:Code}{B:ai}{r:ap}{b:a5}{o:ao}{aa:Y}{α:Type}{η:ae->y}{ι:Type}{k:m an}{F:bH}{all:m ap}{dt:Array ao}{cap:m O}{cR:m y}{k7:Nat->Option Obj}{ah:m aJ}{bg:m (Nat×Bool)}{U:Nat->m O}{cP:ae}{gs:Array ai}{aT:m Nat}{cj:m Prop}{off:Nat}{op:BinOp}{aF:Array ap}{Z:m Prop}{br:m ap}{az:a5}{ty:ao}{val:Nat->Nat->Y}{A:m Y}{bj:au}{ag:Array ae}{aq dh:m an}{res:ι->y}{aP:ι->m an}
variable {CT:m (Nat×bJ)}{av:m il}{be:fB}{ac:m (Nat×cq)}{a4:cq}
namespace R1
section
variable {p:af V}
def V1(S)(b)(B:c S.2<=4000000):X p 138 [fL S,aC.R b] [] (fL (hF S b)) []:=by
 refine X.bc bb func138 rfl rfl rfl λo=>?_;have i:a9 p [(90,BH)]:=.cons MV .nil;refine bf i [902] a v (g.ck 2 1 139 2 (bG.fn []) a a ?_);refine b9 i a v ?_;refine g.aL 4 (λe=>e<=c S.2) (λe:Nat=>[(1,aC.R b),(4,aH 1 0),(5,aH 2 0),(12,bG.R S.2),(13,R (c S.2)),(14,R e)])
  (λe=>Kx S ((S.2.take e).filter λd=>b.contains d.1)) (λe=>c S.2-e) 0 a E a E a x ?_
 intro e j;have m:=CW S.2 (λd=>b.contains d.1) j;by_cases s:e<c S.2
 .have K:S.2.getD e bG.C=d8 S e:=rfl;have q:(S.2.take (e+1)).filter (λd=>b.contains d.1)=if b.contains (d8 S e).1=l then(S.2.take e).filter (λd=>b.contains d.1)++[d8 S e]else(S.2.take e).filter (λd=>b.contains d.1):=CX s (0,[]);generalize(S.2.take e).filter (λd=>b.contains d.1)=k at *;generalize d8 S e=d at *;cases al:b.contains d.1 with
  |true=>
   rw[bo al]at q;have B:=bG.aX k d;refine bf i [15,21] a PF (g.aA (e+1) a E ?_ s x);exact PD
  |false=>
   rw[bl du]at q;refine bf i [15,-21] a P5 (g.aA (e+1) a E ?_ s x);simp_all
 exact PG
abbrev H0(a:dQ)(b d:Bool):m an:=
 match b,d with
 |false,_=>[gu a,.cells 30 l5]
 |true,u=>[gu a,.cells 30 l5,.p 99 2 (c a.1.1) (a3.fn a.1.1),.p 114 2 (c a.1.2.1) (bh.fn a.1.2.1)]
 |true,l=>[gu a,.cells 30 [.K 2 (.R (c a.1.1) 2 0 (c a.1.1)),.K 3 (.R (c a.1.2.1) 2 0 (c a.1.2.1)),cK a1 a.1.2.2,cK aC (aC.ad (c a.2.1) (aC.fn a.2.1)),cK aC (aC.ad (c a.2.2) (aC.fn a.2.2))],.p 99 2 (c a.1.1) (a3.fn a.1.1),.p 114 2 (c a.1.2.1) (bh.fn a.1.2.1)]
abbrev aea(a:dQ)(b:Nat):y:=
 [aH 0 0,bY a.1,.n (.agg [.K 2 (.R (c a.1.1) 2 0 (c a.1.1)),.K 3 (.R (c a.1.2.1) 2 0 (c a.1.2.1)),cK a1 a.1.2.2]),aH 0 3,aC.R a.2.1,aC.R (aC.ad (c a.2.1) (aC.fn a.2.1)),aH 0 4,aC.R a.2.2,aC.R (aC.ad (c a.2.2) (aC.fn a.2.2)),
  .n (.agg [.K 2 (.R (c a.1.1) 2 0 (c a.1.1)),.K 3 (.R (c a.1.2.1) 2 0 (c a.1.2.1)),cK a1 a.1.2.2,cK aC (aC.ad (c a.2.1) (aC.fn a.2.1)),cK aC (aC.ad (c a.2.2) (aC.fn a.2.2))]),.any].getD b .any
def Ju(b)(i:dK b.1)(h:c b.2.1<=4000000)(m:c b.2.2<=4000000):X p 48 [gz b] [] (.n (.agg [.K 0 (.R (c b.1.1) 2 0 (c b.1.1)),cK bh b.1.2.1,cK a1 b.1.2.2,cK aC b.2.1,cK aC b.2.2])) [.p 99 2 (c b.1.1) (a3.fn b.1.1)]:=by
 refine X.bc bb func48 rfl rfl rfl λq=>?_
 have w:a9 p [(87,k5 [bY b.1] [] (.n (.agg [.K 0 (.R (c b.1.1) 2 0 (c b.1.1)),.K 1 (.R (c b.1.2.1) 2 0 (c b.1.2.1)),.c (.R u 2 (c b.1.2.2) (a1.fn b.1.2.2))])) [.p 99 2 (c b.1.1) (a3.fn b.1.1),.p 114 2 (c b.1.2.1) (bh.fn b.1.2.1)]),
   (50,df (e' aC) (λd=>aC.R d) λd=>[c d<=4000000])]:=.cons (l3 (pb b.1 i.aM i.bl i.a0 i.bn i.aI)) (.cons (.a9 λd k=>Cs d k) .nil)
 refine bf w [901] a v ?_;refine g.cm b6 (aea b) (pe (H0 b) 2 10) a a a a
  ⟨.bE,.bE,b7.gE a a (d_ (bg:=[]) bb w (aq:=f _) a E),.bE,.bE,.du bb w (cz:=by exact⟨aC.T _,by rw[aC.l];exact h⟩),.bE,.bE,.du bb w (cz:=by exact⟨aC.T _,by rw[aC.l];exact m⟩),.bE,
   b7.gF a a (d_ (bg:=[]) bb w (aq:=f _) a v),v⟩ ?_
 intro y e;show g p _ _ _ _ _ (H0 b (y 2) (y 10));rw[e 2 ca,e 10 ca];refine pB w [] 1 a v (g.bu 3 a a a E E (g.bf [gu b,.cells 30 [.K 2 (.R (c b.1.1) 2 0 (c b.1.1)),cK bh b.1.2.1,cK a1 b.1.2.2,cK aC b.2.1,cK aC b.2.2],.p 99 2 (c b.1.1) (a3.fn b.1.1),.J] a ?_ ?_))
 .simp[aC.l,hD]
 refine g.bh () [2] ?_ (λo j=>absurd j E);simp
abbrev qd(a:m cb):an:=.p 99 2 (c a) (a3.fn a)
abbrev xT(b a:Nat):y:=cD 0 (.R b 2 0 a)
def Vm(d)(z)(D:z<=c d)(I:c d<=4000000)(m)(ah)(i:cb->Bool)(A:∀r,r∈d.take z->X p m [fL r,ax (.M ah)] [] (bi (i r)) []):
  X p 122 [xT (c d) z,ax (.fn (.func m) [] [.M ah])] [qd d] (R (gS i (d.take z))) [qd d]:=by
 refine X.I func122 rfl λF=>?_;refine aZ a v ?_;have C:c (d.take z)=z:=bT;have k:∀e,e<z->(d.take z).getD e (0,[])=d.getD e (0,[]):=λe q=>by simp[iq,q]
 refine g.aL 1 (λb=>b<=z/\∀e,e<b->i ((d.take z).getD e (0,[]))=u) (λb:Nat=>[(0,xT (c d) z),(1,ax (.fn (.func m) [] [.M ah])),(7,R z),(8,R b)]) (λ_=>[qd d]) (λb=>z-b) 0 a E a E a ⟨by omega,by omega⟩ ?_;rintro b ⟨w,j⟩;by_cases h:b<z
 .have B:d.getD b (0,[])∈d.take z:=by rw[<-k b h];grind
  have y:d.getD ((0+(b:Int).toNat:Nat)) a3.C=d.getD b (0,[]):=nO;refine a6 [9] a bu ?_;rw[y];refine g.aC (A _ B) [] a ?_;cases s:i (d.getD b (0,[]))with
  |true=>
   refine a6 [16] a E (g.aW (bX.mk [0] a ?_ a a a h9));simp[s5 (o:=d.take z) (K:=(0,[])) x (by rw[k b h];exact s) j]
  |false=>
   refine a6 [-16] a bD (g.aA (b+1) a E E ⟨h,λe q=>?_⟩ x);by_cases t:e=b
   .rw[t,k b h];exact s
   exact j e x
 refine a6 [-9] a bT (g.aB ?_);refine aZ a v (g.aQ [0] a ?_ h9);simp[s6 (o:=d.take z) (K:=(0,[])) (λe q=>j e x)]
def oc(a:m cb)(b d:Nat):m cb:=(a.take b).eraseIdx d++(0,[])::a.drop b
def Tl{d}(b:z<=c d)(a:e<z):c (oc d z e)=c d:=by unfold oc;rw[dk,Gs bT];simp;omega
def UE(d)(z e)(O:z<=c d)(y:e<z)(Q:c d<=4000000):
  X p 139 [xT (c d) z,R e,R ((e:Int)+1)] [qd d] (xT (c d) (z-1)) [.p 99 2 (c d) (a3.fn (oc d z e))]:=by
 refine X.I func139 rfl λS=>?_;refine bP [-16,906] a Fb ?_;have B:bV z (f (e:Int))-bV 0 n+(bV z n-bV 0 (f ((e:Int)+1)))=z-1:=Fb;rw[B];refine g.region ?_;refine gV [] 4 a v (g.aN (a0.h6 bb a a a a a a a a a x x x) a a ?_);refine g.aN (a0.eZ bb a a a a a a x) a a ?_;refine bP [907] a v (g.gU 0 (a3.fn (oc d z e)) a (λ_ _=>rfl) (λN idx o s r M=>?_) ?_)
 .have J:bV z (f (e:Int))-bV 0 n=e:=wJ;have I:bV 0 (f ((e:Int)+1))=e+1:=bD;have D:bV z n=z:=rfl;simp only[c5];rw[J,I,D];have A:(oc d z e).getD idx (0,[])=if idx<e then d.getD idx (0,[])else if idx<z-1 then d.getD (idx+1) (0,[])else if idx<z then(0,[])else d.getD idx (0,[]):=by
   unfold oc;have w:c ((d.take z).eraseIdx e)=z-1:=NP;simp only[ak];by_cases m:idx<z-1
   .rw[j5 x,List.getElem?_eraseIdx];by_cases h:idx<e
    .rw[bo h,bo h,iq,bo x]
    rw[bl h,bl h,bo m,iq,bo x]
   rw[hn x,w];by_cases F:idx=z-1
   .subst F;rw[bl x,bl x,bo x];simp
   obtain⟨j,rfl⟩:∃j,idx=z+j:=⟨idx-z,by omega⟩
   rw[bl x,bl x,bl x,show z+j-(z-1)=j+1 by omega];simp
  have b:(a3.a3 ((oc d z e).getD idx (0,[])))[s]?=f r:=M;rw[A]at b;by_cases m:idx=z-1
  .subst m;rw[bl x,bl x,bo x]at b;have E:nM (0+(z-1)) (0+(z-1)+(z-(z-1))) nt.zero (qH e (0+(e+1)) (z-(e+1)) (a3.fn d)) (z-1)=nt.zero:=bo x;rw[E]
   match s,b with
   |0,b=>exact⟨_,rfl,λK i=>by cases b;exact i⟩
   |1,b=>exact⟨_,rfl,λK i=>by cases b;exact Ku (C:=.R l 0 0 λ_=>[]) rfl ⟨rfl,rfl⟩ i⟩
  refine⟨r,?_,λ_ i=>i⟩;rw[<-b];congr 1;unfold nM qH;rw[bl x];have k:∀t,a3.fn d t=a3.a3 (d.getD t (0,[])):=λ_=>rfl;by_cases h:idx<e
  .rw[bl x,bo h,k]
  rw[bl h];by_cases q:idx<z-1
  .rw[bo x,bo q,k,show 0+(e+1)+(idx-e)=idx+1 by omega]
  rw[bl x,bl q,bl x,k]
 exact P4
end
def ks(a:dQ):Nat->dQ
 |0=>a
 |b+1=>jw (ks a b)
def MB{M}:∀{t:Nat},t<=c M.2.2->(ks M t).1.2=M.1.2/\(ks M t).2.1=M.2.1/\(ks M t).2.2=M.2.2.drop t/\(ks M t).1.1=(M.2.2.take t).foldl (λd b=>fr b M.2.1 d) M.1.1
 |0,_=>⟨rfl,rfl,rfl,rfl⟩
 |t+1,m=>by
  obtain⟨j,i,k,e⟩:=MB (M:=M) (t:=t) x;have h:M.2.2.drop t=M.2.2.getD t 0::M.2.2.drop (t+1):=by rw[R8 x];simp[bF (show t<c M.2.2 by omega)]
  have g:ks M (t+1)=((fr (M.2.2.getD t 0) M.2.1 (ks M t).1.1,(ks M t).1.2),(ks M t).2.1,M.2.2.drop (t+1)):=by rw[show ks M (t+1)=jw (ks M t)from a];unfold jw;simp_all
  rw[g,ih x 0,ux,<-e];simp_all
def j2.h4{h}{d}(b:j2 h d):∀a,j2 h (ks d a)
 |0=>b
 |a+1=>(j2.h4 b a).step
def LJ{cw}{bL}:∀{Z:m cb}{e:Nat},(Z.Pairwise λa b=>a.1<b.1)->(∀a∈Z,a.2≠[])->e<c Z->(Z.getD e (0,[])).1=bL ->
  gS (λa:cb=>a.1==bL) Z=e/\fr bL cw Z=if(hF (Z.getD e (0,[])) cw).2.length=0 then Z.eraseIdx e else Z.set e (hF (Z.getD e (0,[])) cw)
 |a::Z,0,i,h,_,d=>by
  obtain⟨k,q⟩:=iF.1 i;simp only[List.getD_cons_zero]at d⊢;have j:Z.map (iX bL cw)=Z:=by rw[qa (g:=id) λb g=>by have:=k b g;exact bl x,List.map_id]
  refine⟨by simp[gS,List.findIdx?_cons,d],?_⟩;unfold fr;rw[me,j,show iX bL cw a=hF a cw from bo d,ss,sj.2 λb g=>by simpa using h b (mg _ g)];split<;>split<;>simp_all
 |a::Z,e+1,i,h,o,d=>by
  obtain⟨k,q⟩:=iF.1 i;simp only[List.getD_cons_succ,fw]at d o⊢;obtain⟨k1,t⟩:=LJ (cw:=cw) (e:=e) q (λb g=>h b (mg _ g)) x d;have s:Z.getD e (0,[])∈Z:=N;have r:a.1≠bL:=by have:=k _ s;omega
  have w:=h a ir;refine⟨?_,?_⟩
  .unfold gS at k1⊢;rw[List.findIdx?_cons];have:(a.1==bL)=u:=bu;rw[this];cases p:Z.findIdx? λa=>a.1==bL with
   |none=>rw[p]at k1;exact bD
   |some v=>rw[p]at k1;exact bu
  have j:fr bL cw (a::Z)=a::fr bL cw Z:=by unfold fr;rw[me,show iX bL cw a=a from bl r,ss,bo bu]
  rw[j,t];split<;>simp
def ko(a:m Int)(d:m cb)(e b:Nat):m cb×Nat:=
 if(hF (d.getD b (0,[])) a).2.length=0 then(oc d e b,e-1)else(d.set b (hF (d.getD b (0,[])) a),e)
def aaM{cw}{bL}{d}(j:z<=c d)(a:e<z)(i:(d.take z).Pairwise λb p=>b.1<p.1)(m:∀b∈d.take z,b.2≠[])(o:(d.getD e (0,[])).1=bL):
  gS (λb:cb=>b.1==bL) (d.take z)=e/\(ko cw d z e).1.length=c d/\(ko cw d z e).2<=z/\(ko cw d z e).1.take (ko cw d z e).2=fr bL cw (d.take z):=by
 have h:(d.take z).getD e (0,[])=d.getD e (0,[]):=by simp[iq,a]
 obtain⟨k1,g⟩:=LJ (cw:=cw) (bL:=bL) (Z:=d.take z) (e:=e) i m du (h▸o);rw[h]at g;rw[g];unfold ko;split
 .refine⟨k1,Tl j a,by omega,?_⟩;unfold oc;have k:c ((d.take z).eraseIdx e)=z-1:=NP;simp only;exact List.take_left' k
 exact⟨k1,by simp,bB _,by rw[AW]⟩
section
variable {p:af V}
def VG(b)(j):X p 137 [fL b,ax (.M [.int .i64 j])] [] (bi (b.1==j)) []:=by refine X.I func137 rfl λd=>?_;exact aZ a v (g.aw a)
abbrev lM(b:m cb)(a:Nat):cb:=b.getD (0+(a:Int).toNat) a3.C
abbrev LI(d:m cb)(b:Nat)(a:m Int):an:=.cells 99 [.c (.int .i64 (lM d b).1),.c (lm (hF (lM d b) a))]
end
structure wP(M:dQ)(KQ t:Nat)(d:m cb)(z:Nat):Prop where
 fD:t<=c M.2.2
 len:c d=KQ
 gl:z<=KQ
 c6:d.take z=(ks M t).1.1
 b':∀S∈d,c S.2<=4000000
def wP.next{M}{v}{d}(D:j2 h M)(e:wP M v t d z)(w:t<c M.2.2):
  ∃g,g<z/\gS (λi:cb=>i.1==M.2.2.getD t 0) (d.take z)=g/\wP M v (t+1) (ko M.2.1 d z g).1 (ko M.2.1 d z g).2:=by
 have j:=D.h4 t;obtain⟨B,k,s,I⟩:=MB (M:=M) (t:=t) e.fD;have r:M.2.2.drop t=M.2.2.getD t 0::M.2.2.drop (t+1):=du;obtain⟨i,b,q⟩:=j.gq (M.2.2.getD t 0) (by rw[s,r];simp);rw[<-e.c6]at b;obtain⟨g,m,A⟩:=g6 b;rw[List.length_take]at m;have p:g<z:=x;have E:(d.getD g (0,[])).1=M.2.2.getD t 0:=by rw[<-q,<-A];simp[bF (show g<c d by omega)]
 have y:∀i∈d.take z,i.2≠[]:=λi b=>by rw[e.c6]at b;have:=(j.cn i b).len.1;grind
 obtain⟨k1,ba,C,F⟩:=aaM (cw:=M.2.1) (by rw[e.len];exact e.gl) p (by rw[e.c6];exact j.cG) y E;refine⟨g,p,k1,w,by rw[ba,e.len],fR C e.gl,?_,λi b=>?_⟩
 .rw[F,e.c6];rw[show ks M (t+1)=jw (ks M t)from a];unfold jw;rw[s,r,k]
 unfold ko at b;split at b
 .unfold oc at b;simp only[fC,fa]at b;rcases b with b|b|b
  .exact e.b' i (g0 (List.mem_of_mem_eraseIdx b))
  .exact bD
  exact e.b' i (p4 b)
 rcases AK b with b|b
 .exact e.b' i b
 rw[b];have o:d.getD g (0,[])∈d:=N;exact fR (kA _ _) (e.b' _ o)
section
variable {p:af V}
def IS(d)(h:c d<=4000000):X p 50 [aC.R d] [] (cD 0 (.R (c d) 1 0 (c d))) [jH (c d) d]:=by
 refine X.I func50 rfl λi=>?_;refine aZ a v (g.eu bb a a a a a a λb e=>?_);cases b with
 |true=>
  obtain rfl:=jD (e rfl);refine aZ a v (g.e9 2 3 1 (aC.fn []) a ?_);exact FE
 |false=>
  refine gV [] 7 a v (g.dI 5 3 1 (aC.fn []) a ?_);refine aZ a ⟨a,a,show(0+c d)*8<=_ by omega⟩ (g.bf [jH (c d) d] a ?_ ?_)
  .simp[bs,cg]
  exact FM
abbrev HZ(a:dQ)(b:Bool):m Q:=[.K 2 (.R (c a.1.1) 2 0 (c a.1.1)),.K 3 (.R (c a.1.2.1) 2 0 (c a.1.2.1)),cK a1 a.1.2.2,cK aC (aC.ad (c a.2.1) (aC.fn a.2.1)),.K 4 (.R (c a.2.2) 1 0 (c a.2.2))]
abbrev HY(a:dQ)(b d e g:Bool):m an:=
 match b,d,e,g with
 |false,_,_,_=>[gu a,.cells 30 l5]
 |true,_,u,_=>[gu a,.cells 30 l5,.p 99 2 (c a.1.1) (a3.fn a.1.1),.p 114 2 (c a.1.2.1) (bh.fn a.1.2.1)]
 |true,_,l,u=>[gu a,.cells 30 l5,.p 99 2 (c a.1.1) (a3.fn a.1.1),.p 114 2 (c a.1.2.1) (bh.fn a.1.2.1),jH (c a.2.2) a.2.2]
 |true,_,l,l=>[gu a,.cells 30 (HZ a l),.p 99 2 (c a.1.1) (a3.fn a.1.1),.p 114 2 (c a.1.2.1) (bh.fn a.1.2.1),jH (c a.2.2) a.2.2]
abbrev ad'(a:dQ)(b:Nat):y:=
 [aH 0 0,bY a.1,.n (.agg [.K 2 (.R (c a.1.1) 2 0 (c a.1.1)),.K 3 (.R (c a.1.2.1) 2 0 (c a.1.2.1)),cK a1 a.1.2.2]),aH 0 3,aC.R a.2.1,aC.R (aC.ad (c a.2.1) (aC.fn a.2.1)),aH 0 4,aC.R a.2.2,cD 4 (.R (c a.2.2) 1 0 (c a.2.2)),
  .n (.agg (HZ a l)),.any].getD b .any
def XU(b)(i:dK b.1)(e:c b.2.1<=4000000)(k:c b.2.2<=4000000):X p 48 [gz b] [] (.n (.agg [.K 0 (.R (c b.1.1) 2 0 (c b.1.1)),cK bh b.1.2.1,cK a1 b.1.2.2,cK aC b.2.1,.K 1 (.R (c b.2.2) 1 0 (c b.2.2))])) [.p 99 2 (c b.1.1) (a3.fn b.1.1),jH (c b.2.2) b.2.2]:=by
 refine X.bc bb func48 rfl rfl rfl λo=>?_
 have w:a9 p [(87,k5 [bY b.1] [] (.n (.agg [.K 0 (.R (c b.1.1) 2 0 (c b.1.1)),.K 1 (.R (c b.1.2.1) 2 0 (c b.1.2.1)),.c (.R u 2 (c b.1.2.2) (a1.fn b.1.2.2))])) [.p 99 2 (c b.1.1) (a3.fn b.1.1),.p 114 2 (c b.1.2.1) (bh.fn b.1.2.1)]),
   (50,df (e' aC) (λd=>aC.R d) λd=>[c d<=4000000])]:=.cons (l3 (pb b.1 i.aM i.bl i.a0 i.bn i.aI)) (.cons (.a9 λd j=>Cs d j) .nil)
 have hO:a9 p [(50,k5 [aC.R b.2.2] [] (cD 0 (.R (c b.2.2) 1 0 (c b.2.2))) [jH (c b.2.2) b.2.2])]:=.cons (l3 (IS b.2.2 k)) .nil;refine bf w [901] a v ?_;refine g.cm b6 (ad' b) (mv (HY b) 2 5 8 10) a a a a
  ⟨.aO,.aO,b7.ec a a a a a a (d_ (bg:=[]) bb w (aq:=f _) a E),.aO,.aO,b7.eS a a a a a a (aK.eval (bg:=[]) bb w a (by exact⟨aC.T _,by rw[aC.l];exact e⟩)),.aO,.aO,b7.eT a a a a a a (d_ (bg:=[]) bb hO (aq:=f _) a bD),.aO,
   b7.eW a a a a a a (d_ (bg:=[]) bb w (aq:=f _) a v),v⟩ ?_
 intro y K;show g p _ _ _ _ _ (HY b (y 2) (y 5) (y 8) (y 10));rw[K 2 ca,K 5 ca,K 8 ca,K 10 ca];refine pB w [] 1 a v (g.bu 3 a a a E E (g.bf [gu b,.cells 30 [.K 2 (.R (c b.1.1) 2 0 (c b.1.1)),cK bh b.1.2.1,cK a1 b.1.2.2,cK aC b.2.1,.K 4 (.R (c b.2.2) 1 0 (c b.2.2))],.p 99 2 (c b.1.1) (a3.fn b.1.1),.J,jH (c b.2.2) b.2.2] a ?_ ?_))
 .simp[aC.l,hD]
 refine g.bh () [2,4] ?_ (λm h=>absurd h E);simp
abbrev tR:an:=.cells 30 l5
abbrev v'(h g:Nat)(d:m ef)(e:m (Int×Int))(b a:m Int):an:=.cells 30 [.K 2 (.R h 2 0 g),cK bh d,cK a1 e,cK aC b,.K 3 (.R (c a) 1 0 (c a))]
abbrev aei(d:m cb)(g b:Nat)(a:m Int)(e:Nat):y:=
 [aH 4 0,aH 4 0,aH 4 0,aH 4 0,cD 2 (.R (c d) 2 0 g),R b,cD 2 (.bp (c d) 2 (0+(b:Int).toNat) 0),fL (lM d b),
  aH 4 0,aH 4 0,aH 4 3,aC.R a,fL (hF (lM d b) a),aH 6 0,.any].getD e .any
abbrev LH(i:dQ)(d:m cb)(h o:Nat)(e:m ef)(g:m (Int×Int))(b a:m Int)(j k:Bool):m an:=
 match j,k with
 |false,_=>[gu i,tR,qd d,jH (c a) a,v' (c d) h e g b a,.J]
 |true,u=>[gu i,tR,qd d,jH (c a) a,v' (c d) h e g b a,.J,.cells 99 [.c (.int .i64 0),cF]]
 |true,l=>[gu i,tR,qd d,jH (c a) a,v' (c d) h e g b a,.J,LI d o b]
set_option maxRecDepth 20000 in
def W'(r)(bL)(d)(z e)(dz)(k)(cw b)(t:z<=c d)(A:c d<=4000000)(s:e<z)(E:gS (λj:cb=>j.1==bL) (d.take z)=e)(C:∀j∈d,c j.2<=4000000):
  bk (ι:={h:Nat->m O // bs (c d) h (a3.fn (ko cw d z e).1)}) p 92 [aH 4 0,R bL] [gu r,tR,qd d,jH (c b) b,v' (c d) z dz k cw b] (λ_=>.Q []) (λh=>[gu r,tR,.p 99 2 (c d) h.1,jH (c b) b,v' (c d) (ko cw d z e).2 dz k cw b,.J,LI d e cw]):=by
 refine bk.bO func92 rfl rfl rfl (g.aU ?_);refine bP [901] a v (g.freeze 3 5 a a a ?_);refine cy a v (g.aC (Vm d z t A 137 [.int .i64 bL] (λj=>j.1==bL) λj _=>VG j bL) [2] a ?_);rw[E];have o:lM d e=d.getD e (0,[]):=nO;have i:lM d e∈d:=by rw[o];grind
 have w:a9 p [(138,ed [fL (lM d e),aC.R cw] (fL (hF (lM d e) cw)))]:=.cons (eu (V1 (lM d e) cw (C _ i))) .nil;have cz:0<=(e:Int)/\(e:Int)<((z:Nat):Int):=x;have D:c d=c d/\0+(e:Int).toNat<c d:=⟨rfl,by omega⟩
 refine bP [902] a v ?_;refine g.cm b6 (aei d z e cw) (pe (LH r d z e dz k cw b) 13 14) a a a a
  ⟨.bE,.bE,.bE,.bE,.bE,.bE,.du bb w (cz:=by exact cz),.du bb w (cz:=by exact D),.bE,.bE,.bE,.bE,.du bb w (cz:=by exact a),
   b7.gE a a (d_ (bg:=[]) bb w (aq:=f _) a v),b7.gF a a (d_ (bg:=[]) bb w (aq:=f _) a v),v⟩ ?_
 intro y B;show g p _ _ _ _ _ (LH r d z e dz k cw b (y 13) (y 14));rw[B 13 ca,B 14 ca];unfold ko;by_cases q:(hF (lM d e) cw).2.length=0
 .rw[bo (by rw[<-o];exact q)];refine bP [29] a ?_ ?_
  .simp only[T,a8,q];exact bu
  exact g.aC (UE d z e t s A) [2] a (cy a v ⟨⟨_,bs.same⟩,.inr a,a,a,_,_,_,a,a,a,v⟩)
 rw[bl (by rw[<-o];exact q)];refine bP [-29] a ?_ ?_
 .simp only[T];exact⟨v,by omega,by omega,by omega,by simpa using q⟩
 refine⟨⟨ln (0+(e:Int).toNat) [.int .i64 (lM d e).1,lm (hF (lM d e) cw)] (a3.fn d),?_⟩,.inr a,a,a,_,_,_,a,a,a,v⟩;have:=a3.cU d e (hF (lM d e) cw) (c d) (bB _);rw[o]at *;rw[show 0+(e:Int).toNat=e by omega];exact this
def UF(d)(b)(A:c b<=4000000):
  X p 93 [cD 0 (.R (c (d::b)) 1 0 (c (d::b))),R 0,R 1] [jH (c (d::b)) (d::b)] (cD 0 (.R (c (d::b)) 1 0 (c b))) [jH (c (d::b)) (b++[0])]:=by
 refine X.I func93 rfl λz=>?_;refine bP [-16,906] a Fb ?_;have j:bV (c (d::b)) (f 0)-bV 0 n+(bV (c (d::b)) n-bV 0 (f 1))=c b:=wJ;rw[j];refine g.region ?_;refine gV [] 4 a v ?_;refine g.aN (a0.h6 bb a a a a a a a a a x bD (by simp<;>omega)) a a ?_;refine g.aN (a0.eZ bb a a a a a a ?_) a a ?_
 .simp
 refine bP [907] a v (g.gU 0 (aC.fn (b++[0])) a (λ_ _=>rfl) (λw idx e y m s=>?_) ?_)
 .refine⟨m,?_,λ_ i=>i⟩;rw[<-s];congr 1;unfold nM qH;simp[fw]at e;have o:bV (c b+1) (f 0)-bV 0 n=0:=rfl;have k:bV 0 (f 1)=1:=rfl;have q:bV (c b+1) n=c b+1:=rfl;simp only[fw,c5,o,k,q];have r:aC.fn (b++[0]) idx=aC.a3 ((b++[0]).getD idx 0):=rfl;rw[r];by_cases i:idx<c b
  .have h:(b++[0]).getD idx 0=b.getD idx 0:=du;have t:aC.fn (d::b) (0+1+(idx-0))=aC.a3 (b.getD idx 0):=by rw[show 0+1+(idx-0)=idx+1 by omega];rfl
   rw[bl x,bo x,h,<-t]
  obtain rfl:idx=c b:=x;have h:(b++[0]).getD (c b) 0=0:=E;rw[bo x,h];rfl
 exact P4
end
def zv(b:Int)(a:dQ):dQ×Bool:=if hj b a=l then(jw a,qw a)else(kS,u)
def XZ(h)(j)(o:nY j)(p:dK j.1):X (af.aD V) 47 [R h,gz j] [] (jX (zv h j).1 (zv h j).2) []:=by
 refine X.bc bb func47 rfl rfl rfl λS=>?_;have w:a9 (af.aD V) [(42,xJ)]:=.cons ES .nil;have D:=p.aM;have C:=o.fI;unfold zv;cases k:hj h j with
 |false=>
  refine bf w [10] a ?_ ?_
  .simp only[T,a3.l,a3.T,bh.l,bh.T,a1.l,a1.T,aC.l,aC.T,k,o,a',a_,hK]
  exact OZ
 |true=>
 rw[bo a];have J:=r3.1 k;refine bf w [-10] a ?_ ?_
 .simp only[T,a3.l,a3.T,bh.l,bh.T,a1.l,a1.T,aC.l,aC.T,k,o,a',a_,fm]
 refine g.aC (XU j p o.fK o.fI) [] a ?_;obtain⟨b,d,K⟩:=j;cases K with
 |nil=>
  have A:(jw (b,d,[]),qw (b,d,[]))=((b,d,[]),u):=rfl;rw[A];refine bP [17] a E (g.bu 2 a a a E E (g.bu 3 a a a E E (g.cr () [] ?_ fy)));simp[hD]
 |cons e i=>
  have F:wP (b,d,e::i) (c b.1) 0 b.1 (c b.1):=⟨g1 _,rfl,bB _,by simp[ks],p.bl⟩
  obtain⟨m,s,M,r⟩:=F.next J E;have y:c i<=4000000:=by have:c i+1<=4000000:=C;omega
  refine bP [-17] a ?_ ?_
  .simp<;>omega
  refine g.cK (W' (b,d,e::i) e b.1 (c b.1) m b.2.1 b.2.2 d (e::i) (bB _) D s M p.bl) a a a a E a ?_;rintro⟨B,z⟩;refine cy a v (g.aC (UF e i y) [3] a (cy a v ?_));have O:(ko d b.1 (c b.1) m).1.length=c b.1:=r.len;have Q:(ko d b.1 (c b.1) m).2<=c b.1:=r.gl;have I:(jw (b,d,e::i)).1.1=(ko d b.1 (c b.1) m).1.take (ko d b.1 (c b.1) m).2:=r.c6.symm;refine g.bu 2 a a a bu bu (g.bu 3 a a a E E (g.cr () [] ?_ fy));generalize ko d b.1 (c b.1) m=N at *;simp only[T.X,T,I,a',a_];and_intros<;>first|exact bs.same|rfl|(simp;omega)|skip
  .intro t q;have:=z t x;simp[hD,this,c1.fn,gG,ak,iq,q,dH]
  intro t q;show aC.a3 ((i++[0]).getD t 0)=aC.a3 (i.getD t 0);simp[List.getElem?_append,q]
def AY{j}{d}{b}(g:∀h,h<b->d.getD h 0<j)(e:b<c d->j<=d.getD b 0):∀a,a<=c d->(fD j d a).2=decide (b<a)
 |0,_=>by simp[fD]
 |a+1,p=>by
  have m:=AY g e a x;rw[xe x];generalize fD j d a=k at *;unfold gr;by_cases o:b<a
  .grind
  by_cases i:b=a
  .subst i;have:=e x;grind
  have:=g a x;grind
def R_{j}{d}{a}(g:∀i,i<a->d.getD i 0<j)(b:a<c d->j<=d.getD a 0)(h:e<c d):
  (fD j d (e+1)).1=(fD j d e).1++(if e=a then[j]else[])++(if d.getD e 0≠j then[d.getD e 0]else[]):=by
 have o:=AY g b e x;rw[xe h];generalize fD j d e=m at *;unfold gr;by_cases p:a<e
 .grind
 by_cases k:a=e
 .subst k;have:=b h;grind
 have:=g e x;grind
def Zn{j}{d}{a}(e:∀b,b<a->d.getD b 0<j)(g:a<c d->j<=d.getD a 0)(i:a<=c d):e6 d j=(fD j d (c d)).1++(if a=c d then[j]else[]):=by
 have:=AY e g (c d) (bB _);have h:fD j d (c d)=d.foldl (gr j) ([],u):=by unfold fD;rw[c9]
 unfold e6;rw[<-h];grind
section
variable {p:af V}
def Vg(d)(i)(ah)(h:Int->Bool)(w:∀j,j∈d->X p i [R j,ax (.M ah)] [] (bi (h j)) []):
  X p 120 [aC.R d,ax (.fn (.func i) [] [.M ah])] [] (R (gS h d)) []:=by
 refine X.I func120 rfl λt=>?_;have z:=t.R 0 a;refine aZ a v (g.aL 0 (λb=>b<=c d/\∀e,e<b->h (d.getD e 0)=u) (λb:Nat=>[(0,aC.R d),(1,ax (.fn (.func i) [] [.M ah])),(7,R (c d)),(8,R b)]) (λ_=>[]) (λb=>c d-b) 0 a E a v a ⟨by omega,by omega⟩ ?_);rintro b ⟨s,k⟩;by_cases q:b<c d
 .have r:d.getD b 0∈d:=N;have m:d.getD (b:Int).toNat aC.C=d.getD b 0:=N;refine a6 [9] a pQ ?_;rw[m];refine g.aC (w _ r) [] a ?_;cases y:h (d.getD b 0)with
  |true=>
   refine a6 [16] a E (g.aW (bX.zero a ?_));simp[s5 q y k]
  |false=>
   refine a6 [-16] a oQ (g.aA (b+1) a E v ?_ x);grind
 refine a6 [-9] a bT (g.aB ?_);refine aZ a v (g.aw a ?_);simp[s6 (o:=d) (K:=0) (λe A=>k e x)]
def Wq(z j):X p 130 [R z,ax (.M [.int .i64 j])] [] (bi (decide (j<=z))) []:=by refine X.I func130 rfl λb=>?_;exact aZ a v (g.aw a)
abbrev Yn(a:m Int)(b:Int)(d:Nat):bH:=[(0,aC.R a),(3,ax (.M [.int .i64 b])),(5,R d)]
def Wr(d)(j)(F:c d<=100000000):X p 86 [aC.R d,R j] [] (aC.R (e6 d j)) []:=by
 refine X.I func86 rfl λD=>?_;refine a6 [901] a v (g.freeze 3 0 a a a ?_);refine aZ a v (g.aC (Vg d 130 [.int .i64 j] (λm=>decide (j<=m)) λm _=>Wq m j) [] a ?_);obtain⟨b,A,y,w,K⟩:∃b:Nat,b<=c d/\(∀q,q<b->d.getD q 0<j)/\(b<c d->j<=d.getD b 0)/\gS (λm=>decide (j<=m)) d=if b<c d then(b:Int)else -1:=by
  rcases yA (λm=>decide (j<=m)) d with⟨r,h⟩|⟨e,k,r,h,aa⟩
  .refine⟨c d,bB _,λq B=>?_,λh=>absurd h (w9 _),by rw[r,bl (w9 _)]⟩;have:=h (d.getD q 0) N;simp at this;grind
  refine⟨e,by omega,λq B=>?_,λ_=>?_,by rw[r,bo k]⟩
  .have:=h (d.getD q 0) (by grind[List.mem_take_iff_getElem]);simp at this;grind
  grind
 rw[K];apply g.cd (Yn d j b) [.J]
 .intro dx;by_cases t:b<c d
  .rw[bo t];exact a6 [-13,904] a E kw
  rw[bl t];obtain rfl:b=c d:=x;exact a6 [13,904] a E kw
 refine a6 [905] a v (g.bK 6 3 1 a a ?_);refine aZ a v ?_;refine g.aL 2 (λe=>e<=c d) (λe:Nat=>[(0,aC.R d),(3,ax (.M [.int .i64 j])),(5,R b),(6,.n (.ar (.w 1 1 (fD j d e).1.length (aC.fn (fD j d e).1)))),(16,aC.R d),(17,R (c d)),(18,R e)])
  (λe=>[.J,.w 3 1 (fD j d e).1.length (aC.fn (fD j d e).1)]) (λe=>c d-e) 0 a ?_ a ?_ a x ?_
 .simp[fD]
 .simp[fD]
 intro e k;have C:=xd j d e k;by_cases h:e<c d
 .have i:=R_ y w h;have al:d.getD (e:Int).toNat aC.C=d.getD e 0:=rfl;generalize fD j d e=o at *;have I:c o.1<=e+1:=x;generalize d.getD e 0=s at *;by_cases g9:e=b<;>by_cases iJ:s=j
  .rw[bo g9,bl Af,hL]at i;have K:=aC.aX o.1 j;refine bP [19,25,-32] a zT (g.aA (e+1) a ?_ ?_ h x)
   .rw[i];simp;exact K
   rw[i];simp;exact K
  .rw[bo g9,bo Af]at i;have K:=aC.e2 o.1 j s;refine bP [19,25,32] a zT (g.aA (e+1) a zV ?_ h x);exact zV
  .rw[bl g9,bl Af,hL,hL]at i;refine bP [19,-25,-32] a zT (g.aA (e+1) a ?_ ?_ h x)
   .rw[i];simp
   rw[i];simp
  rw[bl g9,bo Af,hL]at i;have K:=aC.aX o.1 s;refine bP [19,-25,32] a zT (g.aA (e+1) a zV ?_ h x);exact zV
 obtain rfl:e=c d:=x;have z:=Zn y w A;rw[z];generalize fD j d (c d)=o at *;refine bP [-19] a E (g.aB ?_);by_cases g9:b=c d
 .rw[bo g9];have K:=aC.aX o.1 j;refine bP [41] a Qd (g.aw a ?_);simp;exact K
 rw[bl g9,hL];refine bP [-41] a Qd (g.aw a ?_);simp
end
def KX{h}{d}:∀(a b:m bC),b.Nodup->(a.foldl (e8 h d) b).Nodup
 |[],b,e=>e
 |g::a,b,e=>by rw[iH];refine KX a _ ?_;unfold e8;grind
def Et(h)(o)(d):(fW h o d).Nodup:=KX _ _ List.nodup_nil
theorem D4{d}{b a}:a∈fG d b↔a=b∨a∈d:=by
 induction d with
 |nil=>simp[fG]
 |cons g h e=>simp[fG];split<;>simp[e,or_left_comm,or_assoc]
def aaU{d}{e}(h:d.Pairwise λa b=>a.1<b.1)(g:∀i∈d,i.1≠e.1):(fG d e).Pairwise λa b=>a.1<b.1:=by
 induction d with
 |nil=>simp[fG]
 |cons a p j=>
  obtain⟨o,m⟩:=iF.1 h;have k:=g a ir;simp[fG];grind[List.pairwise_cons,D4]
def DD:∀(d e:m cZ),e.Pairwise (λa b=>a.1<b.1)->d.Pairwise (λa b=>a.1≠b.1)->(∀a∈d,∀b∈e,b.1≠a.1)->(d.foldl fG e).Pairwise λa b=>a.1<b.1
 |[],_,g,_,_=>g
 |a::d,e,g,h,i=>by obtain⟨d1,d2⟩:=iF.1 h;refine DD d _ (aaU g (i a ir)) d2 λo k b j=>?_;grind[D4]
theorem yL(h)(cS):h' h cS=(cS.map (gE h)).foldl fG []:=by unfold h';rw[List.foldl_map];rfl
theorem DG{a:m bC}(b:cA h=l)(d:∀o∈a,cC o=l)(g:a.Nodup):(a.map (gE h)).Pairwise λp r=>p.1≠r.1:=by rw[ri];refine List.Pairwise.imp_of_mem (λ{w i} j k q e=>q ?_) g;exact yO b (d w j) (d i k) e
theorem Ld{bL}{cS}(a:cA h=l)(i:∀b∈cS,cC b=l)(w:cS.Nodup)(q:c cS<=4):tl bL h cS=jS bL h cS:=by
 show(bL,l2 (cS.map (gE h)))=(bL,h' h cS)
 grind[aaT,DG,yL]
theorem DU{bL}{cS}(b:cA h=l)(i:∀k∈cS,cC k=l)(e:cS.Nodup)(p:1<=c cS)(o:c cS<=4):ib h (jS bL h cS)=decide (1<=bL/\bL<=99):=by
 have q:c (h' h cS)=c cS:=DE h cS;rw[o4,y0,bw];constructor
 .exact λd=>d.c1
 intro d;refine⟨d,b,by show 1<=c (h' h cS)/\_;rw[show(jS bL h cS).2=h' h cS from a];omega,λm g=>?_,?_⟩
 .obtain⟨j,w,rfl⟩:=ZX (show m∈h' h cS from g);have:=aax (i j w);simp[right,this]
 show (h' h cS).Pairwise _;rw[yL];exact DD _ _ List.Pairwise.nil (DG b i e) E
def y1(h):∀e a(b:m bC),c b<=e->gb h e a b=(aA ((c b+3) / 4)).map λd:Nat=>jS (a+d) h (gQ b d)
 |0,a,b,j=>by have:c b=0:=x;exact bD
 |e+1,a,b,j=>by
  simp[gb];by_cases g:0<c b
  .rw[bo g,y1 h e (a+1) (b.drop 4) N];have i:(c b+3) / 4=(c (b.drop 4)+3) / 4+1:=N;rw[i,wY,me,uz];congr 1
   .simp[gQ]
   refine qa λd _=>?_;show jS (a+1+(d:Nat)) h (((b.drop 4).drop (4*d)).take 4)=jS (a+((d+1:Nat):Int)) h ((b.drop (4*(d+1))).take 4);grind[List.drop_drop]
  grind
def BX{d}(e:∀a∈d,cC a=l)(b:d.Nodup)(h:t<(c d+3) / 4):(∀a∈gQ d t,cC a=l)/\(gQ d t).Nodup/\1<=c (gQ d t)/\c (gQ d t)<=4:=
 ⟨λa g=>e a (p4 (g0 g)),(b.sublist (List.drop_sublist _ _)).sublist (List.take_sublist _ _),by simp[gQ];omega,by simp[gQ];omega⟩
def J0{b}{d}(o:cA h=l)(e:∀p∈d,cC p=l)(a:d.Nodup)(g:t<(c d+3) / 4):nn h b d t=(decide (1<=di b+(t:Int)/\di b+(t:Int)<=99)&&!(c b.1+t==20)):=by obtain⟨i,j,k,m⟩:=BX e a g;unfold nn lZ;grind[Ld,DU]
def ZP{b}{a:m bC}(d:cA h=l)(q:∀v∈a,cC v=l)(p:a.Nodup)(t:∀e,e<(c a+3) / 4->nn h b a e=l):js h b a ((c a+3) / 4)=gb h (c a) (di b) a:=by
 rw[y1 h _ _ _ (bB _)];refine qa λe g=>?_;have g:=rj.1 g;obtain⟨i,j,o,k⟩:=BX q p g;have s:=t e g;have r:ib h (jS (di b+(e:Int)) h (gQ a e))=l:=by rw[DU d i j o k];rw[J0 d q p g]at s;grind
 unfold lZ;rw[Ld d i j k,bo r]
def iB.hR{h}{b}(d:iB h b):1<=di b/\di b<=100:=by
 unfold R1.di;split
 .omega
 rename_i a;have:=(d.cn _ (C8 a (0,[]))).c1;omega
def Zk(h)(b)(a)(o):qz h b a o=Ew h b a o:=by
 unfold qz Ew;by_cases i:h0 h b=l/\(a=1∨a=2)/\dP o=l
 .rw[bo i,bo ⟨i.1,by omega,i.2.2⟩];have g:=tG.1 i.1;have y:=g.hR;have K:c b.2.2<=9:=by have:=g.dd;simp[gC,cl,bw]at this;omega
  have I:=g.len;have z:=(qP (h:=h) (d:=eD b.1) (oN i.2.2)).1;have s:=Et h o (eD b.1);have r:c (km h b o)=(c (fW h o (eD b.1))+3) / 4:=by unfold km;rw[y1 _ _ _ _ (bB _)];simp
  have B:km h b o=gb h (c (fW h o (eD b.1))) (di b) (fW h o (eD b.1)):=rfl;unfold pC;simp only;generalize fW h o (eD b.1)=d at *;obtain⟨O,E,Q,D⟩:=EC (nn h b d) ((c d+3) / 4) 0;generalize mR (nn h b d) ((c d+3) / 4) 0=m at *;have C:∀e,e<(c d+3) / 4->nn h b d e=(decide (1<=di b+(e:Int)/\di b+(e:Int)<=99)&&!(c b.1+e==20)):=λe k=>J0 g.key z s k;by_cases p:m<(c d+3) / 4
  .rw[bo p];have v:=D x;rw[C m p]at v;have j:fz h b o=l:=by simp[fz,jE,bw,r];simp[AH,dp,AI,gM]at v;omega
   grind
  rw[bl p];obtain rfl:m=(c d+3) / 4:=x;have q:∀e,e<(c d+3) / 4->1<=di b+(e:Int)/\di b+(e:Int)<=99/\c b.1+e≠20:=λe k=>by grind
  have J:c b.1+(c d+3) / 4<=20:=by refine Nat.le_of_not_lt λF=>?_;exact(q (20-c b.1) x).2.2 x
  have M:di b+(((c d+3) / 4:Nat):Int)-1<=99:=by
   rcases n4 ((c d+3) / 4)with A|A
   .grind
   have:=(q ((c d+3) / 4-1) x).2.1;omega
  by_cases w:20<cX b
  .rw[bo w];have j:fz h b o=l:=NS;grind
  rw[bl w];by_cases t:c b.2.2=9
  .rw[bo t];have j:fz h b o=l:=NS;grind
  rw[bl t];have j:fz h b o=u:=by simp[fz,w5,dp,r];omega
  rw[j];simp only[eE,B,ZP g.key z s λe k=>Q e (g1 _) k,hK];rfl
 grind
theorem LQ{d}{e a}(b:a∈d' d e):a=e∨a∈d:=by
 induction d with
 |nil=>simpa[d']using b
 |cons g i h=>
  simp only[d']at b;grind
def aaY{d}{i}(h:d.Pairwise λa b=>a.1<b.1):(d' d i).Pairwise λa b=>a.1<b.1:=by
 induction d with
 |nil=>simp[d']
 |cons a m e=>
  obtain⟨k,g⟩:=iF.1 h;simp only[d'];split
  .rename_i q;refine iF.2 ⟨λo j=>?_,e g⟩;grind[LQ]
  grind[List.pairwise_cons]
def C7:∀(d a:m fk),(∀b∈d,fX b=l)->(∀b∈a,fX b=l)->a.Pairwise (λa e=>a.1<e.1)->(∀b∈d.foldl d' a,fX b=l)/\(d.foldl d' a).Pairwise λa e=>a.1<e.1
 |[],a,_,h,g=>⟨h,g⟩
 |b::d,a,k,h,g=>C7 d (d' a b) (λj i=>k j (mg _ i)) (λj i=>by grind[LQ]) (aaY g)
theorem aac{d}(g:∀j∈d,fX j=l)(k:d.Pairwise λb e=>b.1<e.1):kM d (c d)=l:=by
 refine fS.2 λi h=>?_;rw[cl];refine⟨g _ N,?_⟩;rcases n4 i with a|a
 .simp[a]
 rw[jE];exact FI
def Zm(a:m cb):kM (eD a) (c (eD a))=l:=by
 unfold eD;split
 .rename_i b;obtain⟨d,e⟩:=C7 (dF a) [] (aY.1 b) E List.Pairwise.nil;grind[aac]
 rfl
def ab9{d}(a:∀j∈d,c j.2<=4):c (dF d)<=4*c d:=by
 induction d with
 |nil=>simp[dF]
 |cons h m e=>
  have b:=e λi g=>a i (mg _ g);have k:=a h ir;simp only[dF,so,dk,kC,fw]at b⊢;omega
def iB.h7{h}{b}(e:iB h b)(a:ma b):1<=cX b:=by have d:=s3 b.2.2 a.aI;unfold R1.cX;split<;>omega
def iB.cN{b}(a:iB h b)(d:ma b):Gk h b:=by refine⟨a.key,?_,Zm _,a.dd,a.h7 d⟩;have:=ab9 λg e=>(a.cn g e).len.2;have:=a.len;omega
def ab5{b}{a}{o}(d:h0 h b=l)(e:1<=a/\a<=2)(g:dP o=l):Ew h b a o=(if fz h b o=l then b else eE h b a o,!fz h b o):=bo ⟨d,e,g⟩
def KW{h}{d}:∀(b e:m bC)a,a∈b.foldl (e8 h d) e↔a∈e∨(a∈b/\iS d (dY h a)=0)
 |[],e,a=>by simp
 |o::b,e,a=>by
  rw[iH,KW b];unfold e8;split
  .rename_i i;simp[cl,gM]at i;grind
  rename_i i;simp only[cl,gM,jc]at i;by_cases k:a=o
  .subst k;by_cases g:iS d (dY h a)=0
   .have:e.contains a=l:=by
     cases j:e.contains a with
     |true=>rfl
     |false=>exact absurd ⟨g,j⟩ i
    have:a∈e:=by simpa using this
    grind
   grind
  grind
def zq{o}{b:m fk}{a}:a∈fW h o b↔(∃d∈o,a∈cm d.2)/\iS b (dY h a)=0:=by unfold fW;rw[KW];simp
def aaZ{d}{e}{j}:(∃b∈d' d e,b.1=j)↔j=e.1∨∃b∈d,b.1=j:=by
 induction d with
 |nil=>simp[d',eq_comm]
 |cons k m h=>
  simp only[d'];split
  .simp only[fa,exists_eq_or_imp,h];grind
  constructor
  .rintro⟨b,i,rfl⟩;rcases fa.1 i with rfl|i
   .omega
   exact .inr ⟨b,(jd.1 i).1,a⟩
  rintro(rfl|⟨b,i,rfl⟩)
  .exact⟨e,ir,a⟩
  by_cases g:b.1=e.1
  .exact⟨e,ir,g.symm⟩
  exact⟨b,mg _ (jd.2 ⟨i,by simpa using g⟩),a⟩
def JO:∀(e d:m fk) a,(∃b∈e.foldl d' d,b.1=a)↔(∃b∈e,b.1=a)∨∃b∈d,b.1=a
 |[],d,a=>by simp
 |g::e,d,a=>by rw[iH,JO e,aaZ];grind
def abi{e}(b:right h e=l):∃d,cC d=l/\e.1=dY h d:=by
 unfold right at b;split at b
 .rename_i d a;unfold hG at a;split at a
  .rename_i i;cases a;simp[cl]at i;exact⟨_,i.1,(by simpa using b:dY h _=e.1).symm⟩
  cases a
 cases b
def ab_{Z}(e:∀a∈Z,nW h a):(dF Z).all fX=l:=by refine aY.2 λp b=>?_;obtain⟨a,d,b⟩:=rk.1 b;obtain⟨j,g,rfl⟩:=ho.1 b;obtain⟨o,m,i⟩:=abi ((e a d).gD j g);have k:=(e a d).c1;simp[fX,cl,bw,i,dY];omega
def Kk{e:m cb}(w:∀k∈e,nW h k)(g:Int):iS (eD e) g=0↔g∉cv e:=by
 have t:=ab_ w;unfold eD;rw[bo t];have j:=JO (dF e) [] g;have s:(∃r∈dF e,r.1=g)↔g∈cv e:=by
  simp only[dF,cv,rk,ho];constructor
  .rintro⟨_,⟨k,o,q,p,rfl⟩,rfl⟩;exact⟨k,o,q,p,a⟩
  rintro⟨k,o,q,p,rfl⟩;exact⟨_,⟨k,o,q,p,a⟩,a⟩
 have x:=(C7 (dF e) [] (aY.1 t) E List.Pairwise.nil).1;generalize(dF e).foldl d' []=d at *;unfold iS;split
 .rename_i b i;have z:=x b (wW i);have A:b.1=g:=N5;have:g∈cv e:=by rw[<-s];have:=j.1 ⟨b,wW i,A⟩;simpa using this
  simp[fX,cl,bw]at z;grind
 rename_i i;have B:=uv.1 i;refine⟨λ_ v=>?_,λ_=>rfl⟩;obtain⟨r,y,aj⟩:=j.2 (.inl (s.2 v));exact B r y aey
def DF{cS}{b}:b∈h' h cS↔∃d∈cS,b=gE h d:=by
 rw[yL];have:∀(a w:m cZ),b∈a.foldl fG w↔b∈a∨b∈w:=by
  intro a;induction a with
  |nil=>simp
  |cons e a i=>intro w;rw[iH,i,D4];grind
 rw[this];grind
def y2{h}{j}:∀g d(b:m bC),c b<=g->(j∈cv (gb h g d b)↔∃e∈b,dY h e=j)
 |0,d,b,p=>by have:b=[]:=List.length_eq_zero_iff.1 x;subst this;simp[gb,cv]
 |g+1,d,b,p=>by
  simp[gb];split
  .have i:=y2 (h:=h) (j:=j) g (d+1) (b.drop 4) bT;have o:cv (jS d h (b.take 4)::gb h g (d+1) (b.drop 4))=(h' h (b.take 4)).map (·.1)++cv (gb h g (d+1) (b.drop 4)):=bD;rw[o,fC,i];have:(j∈(h' h (b.take 4)).map (·.1))↔∃e∈b.take 4,dY h e=j:=by
    rw[ho];constructor
    .rintro⟨r,q,rfl⟩;obtain⟨e,k,rfl⟩:=DF.1 q;exact⟨e,k,a⟩
    rintro⟨e,k,rfl⟩;exact⟨gE h e,DF.2 ⟨e,k,a⟩,a⟩
   rw[this];conv=>rhs;rw[<-uA 4 b]
   grind
  have:b=[]:=List.length_eq_zero_iff.1 x;subst this;simp[cv]
def Li{h}(j:cA h=l):∀i b(d:m bC),c d<=i->(∀e∈d,cC e=l)->d.Nodup->(cv (gb h i b d)).Nodup
 |0,b,d,r,_,_=>by simp[gb,cv]
 |i+1,b,d,r,p,o=>by
  simp[gb];split
  .have g:cv (jS b h (d.take 4)::gb h i (b+1) (d.drop 4))=(h' h (d.take 4)).map (·.1)++cv (gb h i (b+1) (d.drop 4)):=bD;have t:(h' h (d.take 4)).Pairwise λs z=>s.1<z.1:=by rw[yL];exact DD _ _ List.Pairwise.nil (DG j (λe k=>p e (g0 k)) (o.sublist (List.take_sublist _ _))) E
   rw[g,List.nodup_append];refine⟨ri.2 (t.imp λr=>by omega),Li j i _ _ bT (λe k=>p e (p4 k)) (o.sublist (List.drop_sublist _ _)),λA w B v g=>?_⟩;subst g;obtain⟨s,x,rfl⟩:=ho.1 w;obtain⟨y,q,rfl⟩:=DF.1 x;obtain⟨e,k,g⟩:=(y2 i _ _ bT).1 v;have g:=yO j (p e (p4 k)) (p y (g0 q)) g;subst g;rw[<-uA 4 d,List.nodup_append]at o;exact o.2.2 e q e k a
  exact bD
def aaF(o):(cm o).flatten=o:=by
 have:∀b a,a<=c o->c o-a<=b->(iy o b a).flatten=o.drop a:=by
  intro b;induction b with
  |zero=>intro a g e;simp[iy,Gu (show c o<=a by omega)]
  |succ b d=>
   intro a g e;simp[iy];split
   .rename_i i;obtain⟨j,h,_⟩:=rA o a i;rw[List.flatten_cons,d _ h x];conv=>rhs;rw[<-uA (eo o a-a) (o.drop a),List.drop_drop,show a+(eo o a-a)=eo o a by omega]
   exact bu
 exact(this (c o) 0 (g1 _) x).trans E
def ab0{bL}{Z}{o}(g:cA h=l)(j:dP o=l)(q:∀a∈o,∀d∈cm a.2,dg h Z (dY h d)=f d):ei h (fI bL h o) Z=f o:=by
 have e:=(zI.1 j).1;have m:∀a∈o,fM h Z (kK h a)=f a:=λa b=>by
  have p:=q a b;have x:g4 h Z (kK h a).2=f (cm a.2):=by
   unfold g4 kK;rw[bo]
   .congr 1;rw[uz];conv=>rhs;rw[<-List.map_id (cm a.2)]
    exact qa λd i=>by simp[p d i]
   refine aY.2 λw t=>?_;obtain⟨d,i,rfl⟩:=ho.1 t;exact bD
  have v:iM (cm a.2)=f a.2:=by unfold iM;rw[aaF,(e a b).2];simp
  unfold fM;exact bD
 have s:fq h Z (o.map (kK h))=o:=by
  unfold fq;rw[uz];conv=>rhs;rw[<-List.map_id o]
  exact qa λa b=>by simp[m a b]
 have r:((o.map (kK h)).all λk=>(fM h Z k).isSome)=l:=aY.2 λk e=>by obtain⟨a,b,rfl⟩:=ho.1 e;exact bD
 unfold ei fI;simp[s,r,g,j,Bool.and_self,dH]
structure i'(h:Int)(b:ce)(bR:Int)(o:m cY):Prop where
 a2:iB h b
 jL:ma b
 iH:1<=bR/\bR<=2
 fT:dP o=l
 hi:fz h b o=u
section
variable {b:ce}{bR:Int}{o:m cY}
def i'.jR(k:i' h b bR o){e}(j:e∈o){g}(i:g∈cm e.2):cC g=l:=by have:=(qP (h:=h) (d:=[]) (oN k.fT)).1 g;exact this (zq.2 ⟨⟨e,j,i⟩,a⟩)
def i'.hG(q:i' h b bR o)(m:Int):m∈cv (eE h b bR o).1↔m∈cv b.1∨∃g∈o,∃d∈cm g.2,dY h d=m:=by
 have p:cv (eE h b bR o).1=cv b.1++cv (km h b o):=by simp[eE,cv]
 rw[p,fC];unfold km;rw[y2 _ _ _ (bB _)];constructor
 .rintro(i|⟨d,e,rfl⟩)
  .exact .inl i
  obtain⟨⟨g,j,e⟩,_⟩:=zq.1 e;exact .inr ⟨g,j,d,e,a⟩
 rintro(i|⟨g,j,d,e,rfl⟩)
 .simp_all
 by_cases k:dY h d∈cv b.1
 .simp_all
 exact .inr ⟨d,zq.2 ⟨⟨g,j,e⟩,(Kk q.a2.cn _).2 k⟩,a⟩
def i'.new(g:i' h b bR o):(∀e∈km h b o,nW h e)/\(km h b o).Pairwise (λe x=>e.1<x.1)/\∀e∈km h b o,di b<=e.1:=by
 have v:=qP (h:=h) (d:=eD b.1) (oN g.fT);have w:=Et h o (eD b.1);have q:=g.hi;have z:=g.a2.hR;unfold fz at q;unfold km at *;generalize fW h o (eD b.1)=d at *;rw[y1 h _ _ _ (bB _)]at *;simp[w5,dp,kC,List.length_range]at q;refine⟨λe p=>?_,?_,λe p=>?_⟩
 .obtain⟨t,a,rfl⟩:=ho.1 p;have a:=rj.1 a;obtain⟨i,j,k,m⟩:=BX v.1 w a;rw[<-y0,DU g.a2.key i j k m,bw];omega
 .rw[ri];refine List.pairwise_lt_range.imp λ{r s} y=>?_;show di b+(r:Int)<di b+(s:Int);omega
 obtain⟨t,a,rfl⟩:=ho.1 p;show di b<=di b+(t:Int);omega
def iB.jP(i:iB h b):∀e∈b.1,e.1<R1.di b:=by
 intro e g;obtain⟨d,a,rfl⟩:=g6 g;unfold R1.di;rw[bl x,sZ x];by_cases j:d=c b.1-1
 .exact bD
 have:=m7.1 i.cG d (c b.1-1) a x x;omega
def iB.h8(i:iB h b):∀e∈b.2.1,e.1<R1.cX b:=by
 intro e g;obtain⟨d,a,rfl⟩:=g6 g;unfold R1.cX;rw[bl x,sZ x];by_cases j:d=c b.2.1-1
 .exact bD
 have:=m7.1 i.cI d (c b.2.1-1) a x x;omega
def i'.eF(e:i' h b bR o):∀d∈(eE h b bR o).1,nW h d:=λd a=>by
 rcases fC.1 a with a|a
 .exact e.a2.cn d a
 exact e.new.1 d a
def i'.ia(a:i' h b bR o){bL}:ei h (fI bL h o) (eE h b bR o).1=f o:=by refine ab0 a.a2.key a.fT λk e m d=>?_;obtain⟨p,g⟩:=JF a.a2.key a.eF ((a.hG _).2 (.inr ⟨k,e,m,d,rfl⟩));obtain⟨i,j,_⟩:=CS g;rw[g,yO a.a2.key i (a.jR e d) j]
def i'.old(a:i' h b bR o){i}{g}(j:ei h i b.1=f g):ei h i (eE h b bR o).1=f g:=
 ab1 (λe k=>Yy a.a2.key a.eF (λe d=>(a.hG e).2 (.inl d))) j
def i'.ok(a:i' h b bR o):iB h (eE h b bR o):=by
 have y:=a.hi;simp[fz,w5,dp]at y;have m:=a.new;have w:=a.a2.h8;have v:=a.a2.h7 a.jL;refine⟨a.eF,?_,?_,λB g=>?_,?_,a.a2.key,?_,by simp[eE,dk];omega⟩
 .refine m9.2 ⟨a.a2.cG,m.2.1,λp j q e=>?_⟩;have:=a.a2.jP p j;have:=m.2.2 q e;omega
 .have i:cv (eE h b bR o).1=cv b.1++cv (km h b o):=by simp[eE,cv]
  have t:=qP (h:=h) (d:=eD b.1) (oN a.fT);rw[i,List.nodup_append];refine⟨a.a2.ak,Li a.a2.key _ _ _ (bB _) t.1 (Et _ _ _),λp j q e i=>?_⟩;subst i;obtain⟨C,z,rfl⟩:=(y2 _ _ _ (bB _)).1 e;exact(Kk a.a2.cn _).1 (zq.1 z).2 j
 .rcases fC.1 g with g|g
  .obtain⟨cQ,dr⟩:=a.a2.a0 B g;obtain⟨D,A⟩:=AG.1 dr;exact⟨cQ,by rw[a.old A];rfl⟩
  rw[gK]at g;subst g;exact⟨⟨v,by show cX b<=20;omega⟩,by rw[a.ia];rfl⟩
 .refine m9.2 ⟨a.a2.cI,by simp,λp j q e=>?_⟩;rw[gK]at e;subst e;exact w p j
 have k:=a.a2.dd;have e:=a.iH;simp only[gC,cl,bw,fS]at k⊢;refine⟨λs r=>?_,by simp only[eE,dk,gJ];omega⟩;simp only[eE,dk,gJ]at r⊢;by_cases i:s<c b.2.2
 .have:=k.1 s i
  rwa [ak,j5 i,<-ak]
 obtain rfl:s=c b.2.2:=x;rw[ak,hn (bB _),sx];simp only[mf,h5,hs,cl,bw];omega
def i'.load(d:i' h b bR o):pG h (eE h b bR o) (cX b)=f o:=by
 unfold pG;have g:(eE h b bR o).2.1.find? (λa=>a.1==cX b)=f (fI (cX b) h o):=by
  simp only[eE,List.find?_append];have:b.2.1.find? (λa=>a.1==cX b)=n:=uv.2 λa e=>by have:=d.a2.h8 a e;simp;omega
  rw[this];simp[fI]
 rw[g];exact d.ia
end
section
variable {p:af V}[p.b2]
abbrev pN(a:iC):an:=.cells 35 (gX 7 a.1 a.2.1 2)
abbrev Cp(a:Nat):={b:gj×Nat // Ar a b}
def Nz(e:Nat)(d:Nat->Int)(h)(a:iC)(i:Option (Cp h))(d3 iN g:Bool):m an:=
 match i with
 |none=>match iN with
  |false=>[eh e d h,fZ]++hf a++[pN a]
  |true=>[eh e d h,fZ]++hf a++[pN a,fZ]
 |some b=>match d3,iN,g with
  |false,u,_=>[eh e d b.1.2,fZ]++hf a++[pN a]
  |false,l,_=>[eh e d b.1.2,fZ]++hf a++[pN a,fZ]
  |true,u,_=>[eh e d b.1.2,fZ]++hf (ck 7 a b.1.1).1++[pN a]
  |true,l,u=>[eh e d b.1.2,fZ]++hf (ck 7 a b.1.1).1++[pN a,fZ]
  |true,l,l=>[eh e d b.1.2,fZ]++hf (ck 7 a b.1.1).1++[pN a,pN (ck 7 a b.1.1).1]
abbrev Ci(a:iC):y:=.n (.agg (gX 7 a.1 a.2.1 2))
def ad9(h)(a:iC)(e:Option (Cp h))(d:Nat):y:=
 match e with
 |none=>[Ci a,aH 0 0,.any,.any,.any,.any,.any,aH 5 0,.any,.any].getD d .any
 |some b=>[Ci a,aH 0 0,lK b.1.1,.Q [.agg (gX 7 (ck 7 a b.1.1).1.1 (ck 7 a b.1.1).1.2.1 2),.ar (.c (.bool (ck 7 a b.1.1).2))],.Q [.agg (gX 7 (ck 7 a b.1.1).1.1 (ck 7 a b.1.1).1.2.1 2),.ar (.c (.bool (ck 7 a b.1.1).2))],
   Ci (ck 7 a b.1.1).1,bi (ck 7 a b.1.1).2,aH 5 0,.any,bi (ck 7 a b.1.1).2].getD d .any
abbrev Eh:iC:=(kS,nL,Dm,CR)
def f_.zero:f_ 0 Eh:=⟨e_.nil,rfl,rfl⟩
def YB:∀a,a<1->([0,5,6,7]:m Nat)[a]?=f a:=λa b=>by grind
def gd(a:m gj):iC:=a.foldl (λd b=>(ck 7 d b).1) Eh
def LA(U)(a):gd (U++[a])=(ck 7 (gd U) a).1:=by unfold gd;grind
def Lz:∀b a,f_ (c a) (gd a)->f_ (c (a++b)) (gd (a++b))
 |[],a,e=>by grind
 |d::b,a,e=>by
  have g:f_ (c (a++[d])) (gd (a++[d])):=by rw[LA,dk];exact e.do
  have:=Lz b (a++[d]) g;grind
def vR(U):f_ (c U) (gd U):=Lz U [] f_.zero
def kR(b:Int)(a:iC):ek:=
 if b=0 then(7,a.1,a.2.1,a.2.2.1,[0])else if b=1 then(7,a.1,a.2.1,a.2.2.1.set 0 (10,(a.2.2.1.getD 0 (0,0)).2),a.2.2.2)else(7,a.1,a.2.1,a.2.2.1,a.2.2.2)
structure nR(h:Nat) where
 dN:m gj
 v:Int
 k1:Nat
 gm:c dN<=8
 ht:h<=k1
 gk:k1<=h+4002
abbrev nR.a{h}(a:nR h):ek:=kR a.v (gd a.dN)
def ab8{aa}{U}(g:c U<=8):p0 (kR aa (gd U)).2.1/\(kR aa (gd U)).2.2.2.1.length<=2/\(kR aa (gd U)).2.2.2.2.length<=2:=by have a:=vR U;have e:=a.a.b' x;have b:=a.bb;have d:=a.b0;unfold kR;grind
set_option maxRecDepth 20000 in
def Yf(z)(i:Nat->Int)(G:Bytes i)(h)(ah:h<=30000)(B:z<=1048576):
  bk (ι:=nR h) p 12 [aH 0 0] [eh z i h] (λbd=>.n (.agg (zO bd.a 1 2))) (λbd=>[eh z i bd.k1,hV bd.a.2.1]++Cg bd.a.2.2.2.1 bd.a.2.2.2.2):=by
 refine bk.bx bb func12 rfl rfl rfl λau=>?_;refine aZ a v (g.aC (Yj 7 ca) [] a (aZ a v (g.a6 (hQ z i G h 9 x B x) [0] a bn ?_)));rintro⟨ai,ao,ar⟩;refine aZ a v ?_;refine g.aL 5 (λbd:Nat×m gj×Nat=>bd.1+c bd.2.1<=8/\h<=bd.2.2/\bd.2.2<=h+1+500*c bd.2.1) (λbd=>[(0,aH 0 0),(2,aH 1 0),(3,aH 4 0),(5,R bd.1)])
  (λbd=>[eh z i bd.2.2,fZ]++hf (gd bd.2.1)++[pN (gd bd.2.1)]) (λbd=>bd.1) (ai.toNat,[],h+1) a ?_ a ?_ a ⟨by grind,by grind,by grind⟩ ?_
 .exact z8
 .have o:gd []=Eh:=rfl;simp[o]
 rintro⟨V,b,k1⟩ ⟨aM,P,af⟩;simp only at aM P af;have J:=vR b;have F:=LA b;have I:∀j,p0 (kR j (gd b)).2.1/\(kR j (gd b)).2.2.2.1.length<=2/\(kR j (gd b)).2.2.2.2.length<=2:=λj=>ab8 x;have C:∀j k1,h<=k1->k1<=h+4002->∃bd:nR h,bd.a=kR j (gd b)/\bd.k1=k1:=λj k1 w i=>⟨⟨b,j,k1,by omega,w,i⟩,rfl,rfl⟩
 by_cases aw:0<V
 .refine a6 [15,905] a Oa ?_;generalize av:gd b=k at *;refine g.hf b6 (ad9 k1 k) (md (Nz z i k1 k) 3 7 8) (l9 (Cp k1) 2) n a a a a a
   ⟨.fN,
   .fN,
   eG.iZ a a a a a (λt bd=>by
    match bd with
    |0=>exact .inr (.inr rfl)
    |1=>exact .inr (.inr rfl)
    |2=>grind
    |3=>exact .inr (.inl rfl)
    |4=>exact .inr (.inl rfl)
    |5=>exact .inr (.inl rfl)
    |6=>exact .inr (.inl rfl)
    |7=>exact .inr (.inr rfl)
    |8=>exact .inr (.inr rfl)
    |9=>exact .inr (.inl rfl)
    |bd+10=>exact .inr (.inr rfl)) (λw=>by cases w<;>exact dA.di (I4 z i G k1 x B) [0] rfl rfl rfl rfl rfl rfl rfl bn rfl bn),
   eG.g4 a a a a a (λt w=>by
    have ab:a9 p [(14,k5 [Cj 7 k,lK t.1.1] (hf k) (EU 7 (ck 7 k t.1.1).1 (ck 7 k t.1.1).2) (hf (ck 7 k t.1.1).1))]:=.cons (l3 (I2 7 k t.1.1 (c b) J x)) .nil
    cases w<;>exact d_ (bg:=[]) bb ab (aq:=f _) rfl ⟨rfl,rfl⟩),
   .dU,
   .dU,
   .dU,
   eG.g5 rfl rfl rfl rfl (λs w=>by rcases s with _|bd<;>cases w<;>exact d_ (bg:=[]) bb a9.nil (aq:=f _) rfl v),
   eG.g6 a a a a a a (λt=>d_ (bg:=[]) bb a9.nil (aq:=f _) a v),
   .dU,v⟩ ?_
  intro s y ae A;have X:s.isSome=l:=(show s.isSome=y 2 from ae).trans (A 2 ca);cases s with
  |none=>cases X
  |some bd=>
  obtain⟨⟨o,U⟩,O⟩:=bd;have aa:=O.ht;have Z:=O.gk;simp only at aa Z;show g p _ _ _ _ _ (Nz z i k1 k (f ⟨(o,U),O⟩) (y 3) (y 7) (y 8));rw[A 3 ca,A 7 ca,A 8 ca];have F:=F o;refine aZ a tY (g.aA (V-1,b++[o],U) a z8 ?_ ⟨by grind,by grind,by grind⟩ N);simp only[F];simp
 refine a6 [-15] a N' (g.aB ?_);refine aZ a v (g.a6 (hQ z i G k1 40 x B x) [0] a bn ?_);rintro⟨j,aj,al⟩;have q:(gd b).2.2.1.length=2:=J.bb;have K:(gd b).2.2.2.length=2:=J.b0;by_cases L:j=0
 .obtain⟨bd,d,W⟩:=C 0 (k1+1) x x;obtain⟨Q,M,S⟩:=I 0;have r:=u6 (p:=p) _ Q x x;refine a6 [29,912] a (by simp[L]) (g.bu 2 a a a E E (aZ a v (g.b6 r.tocH [] a a a a ?_ a a a bn a bn a ?_)))
  .simp only[kR,bo,T.X,T,a',a_];exact QN
  exact FJ
 by_cases D:j=1
 .obtain⟨bd,d,W⟩:=C 1 (k1+1) x x;obtain⟨Q,M,S⟩:=I 1;have r:=u6 (p:=p) _ Q x x;obtain⟨ag,an,Y⟩:∃w i,(gd b).2.2.1=[w,i]:=by
   match O:(gd b).2.2.1,q with
   |[w,i],_=>grind
  have H:bs 2 (hD 0 (ln 0 [.int .i64 10,.int .i64 ((gd b).2.2.1.getD 0 (0,0)).2] (a1.fn (gd b).2.2.1))) (a1.fn ((gd b).2.2.1.set 0 (10,((gd b).2.2.1.getD 0 (0,0)).2))):=by
   rw[Y];intro e bp
   match e,bp with
   |0,_=>rfl
   |1,_=>rfl
  refine a6 [-29,33,912] a (by simp[D]) (g.bu 2 a a a E E (g.bu 3 a a a E E (aZ a v (g.b6 r.tocH [] a a a a ?_ a a a bn a bn a ?_))))
  .simp only[kR,bl (show¬(1:Int)=0 by decide),bo,T.X,T,a',a_];and_intros<;>first|exact bs.same|exact H|rfl|omega|exact q|exact K|exact q.symm|exact K.symm|grind|(simp only[sk];omega)
  exact FJ
 obtain⟨bd,d,W⟩:=C j (k1+1) x x;obtain⟨Q,M,S⟩:=I j;have r:=u6 (p:=p) _ Q x x;refine a6 [-29,-33,912] a (by simp[L,D]) (g.bu 2 a a a E E (g.bu 3 a a a E E (aZ a v (g.b6 r.tocH [] a a a a ?_ a a a bn a bn a ?_))))
 .simp only[kR,bl L,bl D,T.X,T,a',a_];exact QN
 exact FJ
end
section
section
variable {p:af V}[p.b2]
structure uf where
 cA:nR 0
 d_:Bool
def uf.a(a:uf):ek:=if a.d_=l then(a.cA.a.1,(a.cA.a.2.1.1,a.cA.a.2.1.2.1,a.cA.a.2.1.2.2++[9]),a.cA.a.2.2)else a.cA.a
end
def iB.dD{e:ce}(a:iB h e):oV e:=by have d:=a.gK;have b:=m2.of a.dd;exact⟨d.dJ,a.cG,d.ev.ba,λi g=>(b.aI i g).1⟩
def ND{a:ek}(b:e2 a=l):j2 a.1 a.2.1:=by simp only[e2,cl]at b;exact r3.1 b.2
def oJ(a:ek):ce:=if e2 a=l then kl a.2.1.1 a.2.2.1 else([],[],[])
variable {p:af V}
def Xu(b:ek)(h:nY b.2.1):X (af.aD V) 30 [eZ b] [] (bY (oJ b)) []:=by
 refine X.bc bb func30 rfl rfl rfl λk=>?_;have d:=CI b h;have j:a9 (af.aD V) [(16,ed [eZ b] (bi (e2 b)))]:=.cons (eu d) .nil;unfold oJ;cases bW:e2 b with
 |false=>
  exact a7 j [5] a kT zW
 |true=>
  have e:=(SE (p:=af.aD V) (ND bW).dD b.2.2.1).cC;have hO:a9 (af.aD V) [(16,ed [eZ b] (bi (e2 b))),(58,ed [bY b.2.1.1,ep b.2.2.1] (bY (kl b.2.1.1 b.2.2.1)))]:=.cons (eu d) (.cons (eu e) .nil);rw[bo a];refine a7 hO [-5] a (by simp only[T,bW,fm,a',a_];and_intros<;>rfl) ?_;exact zW
def abQ{M:ek}:dK (oJ M):=by
 unfold oJ;split
 .rename_i a;exact(rZ (p:=af.aD V) (ND a).dD M.2.2.1).d_
 exact⟨by simp,by simp,by simp,by simp[kr],by simp⟩
end
def Ez(aa)(b):(kR aa b).2.1=b.1/\(kR aa b).2.2.1=b.2.1:=by unfold kR;grind
def e_.dY{b}(a:e_ j b)(d:j<=1000000):nY b:=⟨a.ba.toj3.fR,by have:=a.b5;omega,by have:=a.cW;omega⟩
def nR.dY{h}(a:nR h):nY a.a.2.1:=by have b:=a.gm;rw[(Ez a.v (gd a.dN)).1];exact(vR a.dN).a.dY x
def uf.dY(a:uf):nY a.a.2.1:=by
 have b:=a.cA.dY;unfold uf.a;split
 .refine⟨b.tonX,b.fK,?_⟩;have d:=a.cA.gm;have g:=(vR a.cA.dN).a.cW;have e:=(Ez a.cA.v (gd a.cA.dN)).1;grind
 exact b
section
variable {p:af V}
def vx(b:Int)(e:Int×Int)(d:ce)(a:Int):Option (m cY):=if cA b=l/\(gm e d.2.2).2=0 then pG b d a else n
def Du(b:Int)(a:Int×Int)(d:ce):(Int×Int)×Int:=if cA b=l then gm a d.2.2 else(a,1)
abbrev zy(a:(Int×Int)×Int)(b:Option (m cY)):y:=.Q [.ar (.c (.R u 2 (c (b.getD [])) (bx.fn (b.getD [])))),.ar (.c (.int .i64 a.2)),.agg [.c (.int .i64 a.1.1),.c (.int .i64 a.1.2)],.ar (.c (.bool b.isSome))]
def ZT{z:Int×Int}{d:m (Int×Int)}(a:¬(gm z d).2=0):(gm z d).1=z:=by unfold gm at *;grind
def V7(b:Int)(z:Int×Int)(h:ce)(e:Int)(j:dK h):X (af.aD V) 29 [R b,lL z,bY h,R e] [] (zy (Du b z h) (vx b z h e)) []:=by
 refine X.bx func29 rfl rfl rfl λt=>?_;have r:=XM b h e j.bn;have q:=Jl (p:=af.aD V) z h.2.2 j.aI;have o:=ZT (z:=z) (d:=h.2.2);unfold vx Du;cases bW:cA b with
 |false=>
  have i:a9 (af.aD V) [(55,df c6 (λb=>bi (cA b)) λ_=>[])]:=.cons pJ .nil;refine a7 i [18] a kT (g.freeze 10 2 a a a ?_);exact g.b9 bb [] a E a a a fy
 |true=>
 generalize gm z h.2.2=m at *;generalize pG b h e=k at *;have i:a9 (af.aD V) [(55,df c6 (λb=>bi (cA b)) λ_=>[]),(56,ed [lL z,a1.R h.2.2] (oM m)),(57,ed [R b,bY h,R e] (nH (k.getD []) k.isSome))]:=.cons pJ (.cons (eu q) (.cons (eu r) .nil));by_cases s:m.2=0
 .refine a7 i [-18,-28] a ?_ ?_
  .simp only[T,bW,s,fm,h4,a',a_];and_intros<;>rfl
  refine g.freeze 10 2 a a a ?_;exact g.b9 bb [] a gY a a a fy
 refine a7 i [-18,28] a ?_ ?_
 .simp only[T,bW,fm,je,a',a_];and_intros<;>first|rfl|exact s
 refine g.freeze 10 2 a a a ?_;exact g.b9 bb [] a (by simp[s,o s]) a a a fy
abbrev yg(b:ek)(a:Int):Int:=b.2.2.2.2.getD (a-1).toNat 0
abbrev ot(b:ek)(a:Int):Int×Int:=b.2.2.2.1.getD (a-1).toNat (0,0)
def wl(a:ek)(b d:Int):Option (m cY):=if e2 a=l/\(1<=b/\b<=2)/\yg a b=0 then vx a.1 (ot a b) (oJ a) d else n
def ad7{a:ek}(b:e2 a=l):c a.2.2.2.1=2/\c a.2.2.2.2=2:=by simp only[e2,cl,bw]at b;exact b.1.1
def Iw(a:ek)(e:Int×Int)(_ b d:Bool):m an:=match b,d with
 |false,_=>[.cells 35 (lu a)]
 |true,u=>[.cells 35 (lu a),E6]
 |true,l=>[.cells 35 (lu a),yN e]
def Yi(M:ek)(e h:Int)(t:nY M.2.1)(K:1<=e/\e<=3):X (af.aD V) 9 [eZ M,R e,R h] [] (nH ((wl M e h).getD []) (wl M e h).isSome) []:=by
 refine X.I func9 rfl λF=>?_;have s:=CI M t;have w:a9 (af.aD V) [(16,ed [eZ M] (bi (e2 M))),(28,uR)]:=.cons (eu s) (.cons zw .nil);unfold wl;cases i:e2 M with
 |false=>
  refine a7 w [14,19,28] a ?_ (g.aw a);simp only[T,i,hK,a',a_];and_intros<;>rfl
 |true=>
 obtain⟨I,J⟩:=ad7 i;by_cases al:1<=e/\e<=2
 rotate_left
 .rw[bl zS];refine a7 w [-14,19,28] a ?_ (g.aw a);simp only[T,i,n7,al,n1,fm,hK,a',a_];and_intros<;>rfl
 by_cases o:yg M e=0
 rotate_left
 .rw[bl λz=>o z.2.2];refine a7 w [-14,-19,28] a ?_ (g.aw a);simp only[T,i,n7,al,a8,lB,fm,je,a',a_];and_intros<;>first|rfl|omega|exact o
 rw[bo ⟨rfl,al,o⟩];have B:=Xu M t;have E:=abQ (M:=M);have D:=V7 M.1 (ot M e) (oJ M) h E;generalize Du M.1 (ot M e) (oJ M)=k at *;generalize vx M.1 (ot M e) (oJ M) h=j at *;generalize oJ M=r at *;have w:a9 (af.aD V) [(16,ed [eZ M] (bi (e2 M))),(28,uR),(30,ed [eZ M] (bY r)),(29,ed [R M.1,lL (ot M e),bY r,R h] (zy k j))]:=.cons (eu s) (.cons zw (.cons (eu B) (.cons (eu D) .nil)));have C:a8 .i64 (e-1):=mW;have p:0<=e-1/\e-1<(c M.2.2.2.1:Int):=x;refine bf w [-14,-19,-28,903] a ?_ ?_
 .simp only[T,i,n7,al,a8,lB,fm,Gq,a',a_];and_intros<;>first|rfl|omega|exact o
 refine g.cm b6 (λA=>([aH 0 0,R M.1,aH 0 10,a1.R M.2.2.2.1,R e,R (e-1),ax (.M [.int .i64 (ot M e).1,.int .i64 (ot M e).2]),lL (ot M e),eZ M,bY r,R h,zy k j,zy k j,ax (.R u 2 (c (j.getD [])) (bx.fn (j.getD []))),R k.2,lL k.1,bi j.isSome,aH 1 0,ax (.R u 2 (c (j.getD [])) (bx.fn (j.getD []))),R k.2,.any,bi j.isSome]:m y).getD A .any) (lf (Iw M k.1) 21 17 20) a a a a
  ⟨b7.bF a a a (λ_ b d=>by cases b<;>cases d<;>exact aK.x),
  b7.bF a a a (λ_ b d=>by cases b<;>cases d<;>exact aK.x),
  b7.bF a a a (λ_ b d=>by cases b<;>cases d<;>exact aK.x),
  b7.bF a a a (λ_ b d=>by cases b<;>cases d<;>exact aK.x),
  b7.bF a a a (λ_ b d=>by cases b<;>cases d<;>exact aK.x),
  b7.bF a a a (λ_ b d=>by cases b<;>cases d<;>exact aK.eval (bg:=[]) bb w a C),
  b7.bF a a a (λ_ b d=>by cases b<;>cases d<;>exact aK.eval (bg:=[]) bb w a p),
  b7.bF a a a (λ_ b d=>by cases b<;>cases d<;>exact aK.x),
  b7.bF a a a (λ_ b d=>by cases b<;>cases d<;>exact aK.x),
  b7.bF a a a (λ_ b d=>by cases b<;>cases d<;>exact aK.eval (bg:=[]) bb w a a),
  b7.bF a a a (λ_ b d=>by cases b<;>cases d<;>exact aK.x),
  b7.bF a a a (λ_ b d=>by cases b<;>cases d<;>exact aK.eval (bg:=[]) bb w a a),
  b7.bF a a a (λ_ b d=>by cases b<;>cases d<;>exact aK.x),
  b7.bF a a a (λ_ b d=>by cases b<;>cases d<;>exact aK.x),
  b7.bF a a a (λ_ b d=>by cases b<;>cases d<;>exact aK.x),
  b7.bF a a a (λ_ b d=>by cases b<;>cases d<;>exact aK.x),
  b7.bF a a a (λ_ b d=>by cases b<;>cases d<;>exact aK.x),
  b7.ef a a a a a (λ_=>d_ (bg:=[]) bb w (aq:=f _) a v),
  b7.bF a a a (λ_ b d=>by cases b<;>cases d<;>exact aK.x),
  b7.bF a a a (λ_ b d=>by cases b<;>cases d<;>exact aK.x),
  b7.eg a a a a a (λ_=>d_ (bg:=[]) bb w (aq:=f _) a v),
  b7.ee a a a a (λb d=>by cases b<;>cases d<;>exact aK.x),v⟩ ?_
 intro y q;show g (af.aD V) _ _ _ _ _ (Iw M k.1 (y 21) (y 17) (y 20));rw[q 21 ca,q 17 ca,q 20 ca];exact wB
section
variable [p.b2]
end
end
end R1
section
namespace R1
variable {p:af V}[p.b2]
abbrev Zy(b:ce)(a:Nat):Nat:=bV (c b.1) (f (a:Int))-bV 0 n
abbrev Zz(b:ce)(a:Nat):Nat:=bV (c b.1) n-bV 0 (f ((a:Int)+1))
abbrev lN(a:ce):Nat->m O:=fF (bV 0 n) (a3.fn a.1)
abbrev kH(b:ce)(a:Nat):Nat->m O:=fF (bV 0 (f ((a:Int)+1))) (a3.fn b.1)
end R1
end
namespace R1
section
variable {p:af V}
def VX(b)(d:dK b.1):X p 23 [gz b,gz b] [] (bi l) []:=by refine X.I func23 rfl λh=>?_;have e:a9 p [(51,ed [bY b.1,bY b.1] (bi l)),(24,xE)]:=.cons (eu (VW b.1 d)) (.cons EO .nil);refine bf e [10,17] a ?_ (g.aw a);exact bD
end
def Sy{b}{g:m Int}(a:iB h b):j2 h ((b.1,b.2.1.filter λd=>g.contains d.1,b.2.2),hX (b.2.1.filter λd=>g.contains d.1),b.1.map (·.1)):=by refine⟨⟨a.cn,a.cG,a.ak,λd e=>a.a0 d (jd.1 e).1,a.cI.filter _,a.key,a.dd,a.len⟩,λd e j i=>tg.2 ⟨d,e,i⟩,λj i=>?_,ri.2 a.cG⟩;simp_all
def Gz{d}(o:d.Pairwise (·<=·)):∀a,a<=c d->(fE d a).Pairwise (· < ·)/\∀e∈fE d a,0<a/\e<=d.getD (a-1) 0
 |0,_=>by simp[fE]
 |a+1,q=>by
  obtain⟨j,m⟩:=Gz o a x;have i:∀g,g<a->d.getD g 0<=d.getD a 0:=λg p=>by have:=m7.1 o g a x x p;grind
  rw[fE];split
  .rename_i z;refine⟨j,λe b=>⟨by omega,?_⟩⟩;have:=m e b;have:=i (a-1) x;simp only[p5];omega
  rename_i z;have h:∀e∈fE d a,e<d.getD a 0:=λe b=>by have s:=m e b;have r:=i (a-1) x;omega
  refine⟨m9.2 ⟨j,by simp,λe b t k=>?_⟩,λe b=>⟨by omega,?_⟩⟩
  .rw[gK]at k;subst k;exact h e b
  simp only[p5];rcases fC.1 b with b|b
  .have:=h e b;omega
  rw[gK]at b;omega
def abX(a):gh a=gF a.2:=by
 refine A_ ?_ (C4 List.Pairwise.nil) λb=>by rw[yJ,DC]
 unfold gh hP;exact(Gz (My _) _ (bB _)).1
abbrev ab'(g e:ao×Y)(d:dQ)(b:ce)(a:m Int):m an:=kX g e++[gu d,.cells 30 l5,.J,gu (b,a,d.2.2),jV b]
def abw{b}{a}{o}(d:hj h b=l)(e:1<=a/\a<=2)(g:dP o=l):fH h b a o=if fz h b.1 o=l then(b,u)else(mM h b a o,l):=by unfold fH qE;simp_all
def XX(j z)(h)(b)(bR)(o)(i:nY b)(A:dK b.1)(I:ma b.1)(H:a8 .i64 bR):
  X (af.aD V) 45 [R h,gz b,R bR,bx.R o] (kX j z) (jX (fH h b bR o).1 (fH h b bR o).2) (kX j z):=by
 refine X.bc bb func45 rfl rfl rfl λP=>?_;have m:a9 (af.aD V) [(42,xJ),(43,rq)]:=.cons ES (.cons wa .nil);have w:(b.1,b.2.1,b.2.2)=b:=rfl;have ao:=A.aM;cases q:hj h b with
 |false=>
  have s:fH h b bR o=(kS,u):=by unfold fH qE;simp[q]
  rw[s];refine bf m [19,27,31] a ?_ ?_
  .simp only[T,a3.l,a3.T,bh.l,bh.T,a1.l,a1.T,aC.l,aC.T,w,q,i,hK,a',a_]
  exact nN
 |true=>
 by_cases F:1<=bR/\bR<=2
 rotate_left
 .have s:fH h b bR o=(kS,u):=by unfold fH qE;simp[F]
  rw[s];exact bf m [-19,22,27,31] a bD nN
 have S:bR=1∨bR=2:=x;cases K:dP o with
 |false=>
  have s:fH h b bR o=(kS,u):=by unfold fH qE;simp[K]
  rw[s];rcases S with rfl|rfl
  .exact bf m [-19,-22,-27,31] a z4 nN
  exact bf m [-19,22,-27,31] a z4 nN
 |true=>
 rw[abw q F K];have B:=r3.1 q;have ah:=tG.2 B.toiB;have aV:=B.toiB.gK;have y:=XP j z h b.1 bR o A i.tonX I H λt=>(tG.1 t).cN I;rw[Zk,ab5 ah F K]at y;apply g.cd [(0,R h),(2,R bR),(3,bx.R o),(5,aH 3 0),(8,aH 4 0)] (kX j z++[gu b,.cells 30 l5])
 .intro dx;rcases S with rfl|rfl
  .exact bf m [-19,-22,-27,-31,903] a z4 kw
  exact bf m [-19,22,-27,-31,903] a z4 kw
 refine cy a v (g.aC (Ju b A i.fK i.fI) [] a (bP [904] a v (g.bu 5 a a a E E (cy a v (g.aC y [0,1,2] a ?_)))));cases Y:fz h b.1 o with
 |true=>
  exact bP [45] a E PL
 |false=>
 have an:=A.bn;have J:=aV.cN (h:=h) (o:=o) (bR:=bR) (by have:=xl 1 B.cI λr Z=>(B.a0 r Z).1;omega) K Y;have ai:(eE h b.1 bR o).2.1.length=c b.1.2.1+1:=by simp[eE]
 have aa:(eE h b.1 bR o).2.1.getD ((eE h b.1 bR o).2.1.length-1) (0,[])=fI (cX b.1) h o:=by rw[ai];simp[eE,ak]
 have U:=J.c7 (fI (cX b.1) h o) N;have L:=wd U.2;have al:=ti (fI (cX b.1) h o).2;have aj:=J.eB;have G:=i.fK;have M:=CC (p:=af.aD V) (fI (cX b.1) h o) x x;rw[abX]at M;unfold mM;simp only[bl (show¬(u=l) by simp)];generalize eE h b.1 bR o=k at *;generalize fI (cX b.1) h o=r at *;have ae:((c k.2.1:Int)-1).toNat=c k.2.1-1:=x;have W:k.2.1.getD ((c k.2.1:Int)-1).toNat bh.C=r:=by rw[ae];exact aa
 have C:a9 (af.aD V) [(75,ed [iQ r] (aC.R (gF r.2)))]:=.cons (eu M) .nil;refine bf C [-45] a ?_ ?_
 .simp only[T,W,a8];and_intros<;>first|rfl|exact True.intro|omega
 generalize gF r.2=d at *;refine g.aL 8 (λe=>e<=c d) (λe:Nat=>[(8,aH 4 0),(10,aH 6 0),(57,aC.R d),(58,R (c d)),(59,R e)])
  (λe=>ab' j z b k ((d.take e).foldl e6 b.2.1)) (λe=>c d-e) 0 a ?_ a ?_ a x ?_
 .simp
 .simp
 intro e ab;by_cases t:e<c d
 .have ag:d.getD (e:Int).toNat aC.C=d.getD e 0:=rfl;have O:=yn e6 b.2.1 t;have Q:=qs b.2.1 (d.take e);rw[List.length_take]at Q;generalize(d.take e).foldl e6 b.2.1=j4 at *;have D:a9 (af.aD V) [(86,ed [aC.R j4,R (d.getD e 0)] (aC.R (e6 j4 (d.getD e 0))))]:=.cons (eu (Wr j4 (d.getD e 0) x)) .nil;refine bf D [60] a ?_ (g.aA (e+1) a E ?_ t x)
  .simp only[T,ag,a8,bw];exact qZ
  rw[O];simp
 obtain rfl:e=c d:=x;rw[c9];refine bP [-60] a E (g.aB ?_);exact cy a v nN
abbrev xu(g e:ao×Y)(d:ek)(h:gj)(i:Int)(b:iC)(a:Nat->m O):m an:=pw g e d h++[.p 51 2 2 (a1.fn b.2.2.1),.p 3 1 2 a,pO i b.1 b.2.1]
abbrev qg(e d:ao×Y)(b:ek)(g:gj)(h:Int)(i:iC)(a:Nat->m O):m an:=xu e d b g h i a++[.J,.J,.J,.J]
abbrev l'(j:Nat)(h g:ao×Y)(d:ek)(i:gj)(a:Int)(b:iC)(e:gj):Prop:=
 bk (ι:=qp (ck a b e).1.2.2.2) (af.aD V) j [aH 8 0,lK e] (xu h g d i a b (aC.fn b.2.2.2)) (λ_=>bi (ck a b e).2) (λk=>qg h g d i a (ck a b e).1 k.1)
def Yb(k q)(e)(i)(h)(b)(d)(m:d.1=3):l' 19 k q e i h b d:=by
 have j:ck h b d=((b.1,d.2.2.2.1,b.2.2),l):=by unfold ck;simp[m]
 unfold l';rw[j];refine bk.bO func19 rfl rfl rfl (g.aU ?_);exact cy a v wE
def Yc(e B)(m)(q)(h)(b)(d)(p:f_ j b)(r:d.1=2):l' 18 e B m q h b d:=by
 unfold l';have o:a9 (af.aD V) [(28,uR)]:=.cons zw .nil;by_cases k:1<=d.2.1/\d.2.1<=2
 rotate_left
 .have i:ck h b d=(b,u):=by unfold ck;simp[r,k]
  rw[i];refine bk.bO func18 rfl rfl rfl (g.aU ?_);exact bf o [8] a (by simp[n7,k]) wE
 have i:ck h b d=((b.1,b.2.1,gD d.2.1 b.1.1 b.2.1 b.2.2),l):=by unfold ck;simp[r,k]
 rw[i];refine bk.bO func18 rfl rfl rfl (g.aU ?_);refine bf o [-8] a (by simp[n7,k]) (g.cK (IV e B m q d h b.1 b.2.1 d.2.1 b.2.2.1 b.2.2.2 p.a.ba.dD k p.bb p.b0) a a a a E a λs=>?_);refine cM o a v (g.eM 2 ?_);refine g.cM 9 a bn ?_;refine g.ret ?_;exact⟨s,.inl a,a,a,_,_,_,a,a,a,a⟩
abbrev tj(a:m an)(e:dQ)(_ b d:Bool):m an:=
 match b,d with
 |false,_=>a
 |true,u=>a++[tR]
 |true,l=>a++[gu e]
def aci{M}(a:qw M=u):jw M=M:=by
 obtain⟨e,d,b⟩:=M;cases b with
 |nil=>rfl
 |cons g h=>cases a
abbrev aen(e:Int)(g b:dQ)(a:Bool)(d:Nat):y:=
 [aH 8 0,aH 8 0,aH 8 0,R e,aH 8 0,aH 8 0,aH 8 1,gz g,jX b a,jX b a,gz b,bi a,aH 10 0,.any,bi a].getD d .any
set_option maxRecDepth 20000 in
def Ye(z d)(k)(e)(h)(b)(m)(B:f_ j b)(I:j<=1000)(D:hj h b.1=l)(F:m.1=5):l' 21 z d k e h b m:=by
 unfold l';have r:ck h b m=((jw b.1,b.2),qw b.1):=by unfold ck;simp[F]
 have C:=XZ h b.1 (B.a.dY x) B.a.ba.dJ;have s:zv h b.1=(jw b.1,qw b.1):=bo D;rw[s]at C;have t:=aci (M:=b.1);rw[r];generalize jw b.1=o at *;generalize qw b.1=p at *;have i:a9 (af.aD V) [(47,ed [R h,gz b.1] (jX o p))]:=.cons (eu C) .nil;refine bk.bO func21 rfl rfl rfl (g.aU ?_);refine bf i [901] a v ?_;refine g.cm b6 (aen h b.1 o p) (lf (tj (xu z d k e h b (aC.fn b.2.2.2)++[rD m]) o) 14 12 13) a a a a
  ⟨.ax,.ax,.ax,.ax,.ax,.ax,.ax,.ax,.dv bb i (cz:=by exact a),.ax,.ax,.ax,
  b7.ef a a a a a (λw=>by cases w<;>exact d_ (bg:=[]) bb i (aq:=f _) a v),
  b7.eg a a a a a (λw=>by cases w<;>exact d_ (bg:=[]) bb i (aq:=f _) a v),
  b7.ee a a a a (λq K=>by cases q<;>cases K<;>exact aK.x),v⟩ ?_
 intro y A;show g (af.aD V) _ _ _ _ _ (tj _ o (y 14) (y 12) (y 13));rw[A 14 ca,A 12 ca,A 13 ca];cases p with
 |true=>
  exact bf i [19] a E Fw
 |false=>
  obtain rfl:=t rfl;exact bf i [-19] a E Fw
abbrev aem(e:Int)(g b:dQ)(da:m Int)(a:Bool)(d:Nat):y:=
 [aH 8 0,aH 8 0,aH 8 0,R e,aH 8 0,aH 8 0,aH 8 1,aH 8 1,bY g.1,aH 9 7,aC.R da,jX b a,jX b a,gz b,bi a,aH 10 0,.any,bi a].getD d .any
set_option maxRecDepth 20000 in
def Ya(z d)(m)(B)(h)(b)(e)(s:f_ j b)(C:hj h b.1=l)(A:e.1=4):l' 20 z d m B h b e:=by
 unfold l';by_cases t:c b.1.2.2=0
 rotate_left
 .have i:ck h b e=(b,u):=by unfold ck;simp[A,t]
  rw[i];refine bk.bO func20 rfl rfl rfl (g.aU ?_);exact bP [13] a Oa wE
 have i:ck h b e=(((j_ h b.1.1 e.2.2.2.2).1,b.2),l):=by unfold ck;simp[A,t]
 have x:=T3 h b.1.1 e.2.2.2.2 s.a.ba.dJ s.a.ba.toj3.fR;have p:(j_ h b.1.1 e.2.2.2.2).2=l:=by unfold j_;rw[bo (tG.2 (r3.1 C).toiB)]
 rw[p]at x;rw[i];generalize(j_ h b.1.1 e.2.2.2.2).1=o at *;have k:a9 (af.aD V) [(46,ed [R h,bY b.1.1,aC.R e.2.2.2.2] (jX o l))]:=.cons (eu x) .nil;refine bk.bO func20 rfl rfl rfl (g.aU ?_);refine bf k [-13,903] a N' ?_;refine g.cm b6 (aem h b.1 o e.2.2.2.2 l) (lf (tj (xu z d m B h b (aC.fn b.2.2.2)++[rD e]) o) 17 15 16) a a a a
  ⟨.ax,.ax,.ax,.ax,.ax,.ax,.ax,.ax,.ax,.ax,.ax,.dv bb k (cz:=by exact a),.ax,.ax,.ax,
  b7.ef a a a a a (λw=>by cases w<;>exact d_ (bg:=[]) bb k (aq:=f _) a v),
  b7.eg a a a a a (λw=>by cases w<;>exact d_ (bg:=[]) bb k (aq:=f _) a v),
  b7.ee a a a a (λq K=>by cases q<;>cases K<;>exact aK.x),v⟩ ?_
 intro y r;show g (af.aD V) _ _ _ _ _ (tj _ o (y 17) (y 15) (y 16));rw[r 17 ca,r 15 ca,r 16 ca];exact bf k [29] a E Fw
abbrev aeo(g:Int)(i d:dQ)(a:Int)(h:m cY)(b:Bool)(e:Nat):y:=
 [aH 8 0,aH 8 0,aH 8 0,R g,aH 8 0,aH 8 0,aH 8 1,gz i,aH 9 1,R a,aH 9 2,bx.R h,jX d b,jX d b,gz d,bi b,aH 11 0,.any,bi b].getD e .any
set_option maxRecDepth 20000 in
def Yd(r z)(C)(I)(h)(b)(i)(s:f_ j b)(Y:j<=1000)(M:i.1=1):l' 17 r z C I h b i:=by
 unfold l';have F:a9 (af.aD V) [(28,uR),(43,rq)]:=.cons zw (.cons wa .nil);by_cases e:1<=i.2.1/\i.2.1<=2
 rotate_left
 .have B:ck h b i=(b,u):=by unfold ck;simp[M,e]
  rw[B];refine bk.bO func17 rfl rfl rfl (g.aU ?_);exact bf F [11,16] a (by simp[n7,e]) wE
 cases aa:dP i.2.2.1 with
 |false=>
  have B:ck h b i=(b,u):=by unfold ck;simp[M,aa]
  rw[B];refine bk.bO func17 rfl rfl rfl (g.aU ?_);exact bf F [-11,16] a Rz wE
 |true=>
 have B:ck h b i=nE h b i.2.1 i.2.2.1:=by unfold ck;simp[M,e,aa]
 rw[B];have R:=td (bR:=i.2.1) (b:=b.1.1) (d:=b.2.1) (bd:=b.2.2) s.bb s.b0;have O:=IV (p:=af.aD V) r z C I i h b.1 b.2.1 i.2.1 b.2.2.1 b.2.2.2 s.a.ba.dD e s.bb s.b0;have Q:=XX r z h b.1 i.2.1 i.2.2.1 (s.a.dY x) s.a.ba.dJ s.a.ba.ev mW;have X:=Ej (h:=h) (bR:=i.2.1) (o:=i.2.2.1) s.a;unfold nE;rw[show((b.2.2.1,b.2.2.2):m (Int×Int)×m Int)=b.2.2 from a]at O;generalize gD i.2.1 b.1.1 b.2.1 b.2.2=k at *;have J:k.2.getD (0+(i.2.1-1).toNat) aC.C=k.2.getD (i.2.1-1).toNat 0:=q4;refine bk.bO func17 rfl rfl rfl (g.aU ?_);refine bf F [-11,-16] a Rz (g.cK O a a a a E a λt=>?_);refine bP [904] a v (g.bf (n6 r z C I h b.1 b.2.1 k.1 (aC.fn k.2) i++[.J]) a tV ?_);by_cases A:k.2.getD (i.2.1-1).toNat 0=0
 rotate_left
 .rw[bl (λs=>A s.1)];refine bP [31,38] a ?_ ?_
  .simp only[T,J,a8,je,d6,a',a_];and_intros<;>first|exact A|omega
  exact PV
 by_cases D:b.2.1.1=0
 rotate_left
 .rw[bl (λs=>D s.2)];refine bP [-31,38] a ?_ ?_
  .simp only[T,J,A,a8,je,h4,d6,a',a_];and_intros<;>first|exact D|omega
  exact PV
 rw[bo ⟨A,D⟩];refine bP [-31,-38,906] a ?_ ?_
 .simp only[T,J,A,D,a8,h4,a',a_];omega
 refine g.cm b6 (aeo h b.1 (fH h b.1 i.2.1 i.2.2.1).1 i.2.1 i.2.2.1 (fH h b.1 i.2.1 i.2.2.1).2) (lf (tj (n6 r z C I h b.1 b.2.1 k.1 (aC.fn k.2) i++[.J]) (fH h b.1 i.2.1 i.2.2.1).1) 18 16 17) a a a a
  ⟨.ax,.ax,.ax,.ax,.ax,.ax,.ax,.ax,.ax,.ax,.ax,.ax,
  b7.bF a a a (λw q K=>aK.dV (by cases q<;>cases K<;>exact dA.di Q.tocH [0,1,2] a a a a a a a bn a bn)),
  .ax,.ax,.ax,
  b7.ef a a a a a (λw=>by cases w<;>exact d_ (bg:=[]) bb F (aq:=f _) a v),
  b7.eg a a a a a (λw=>by cases w<;>exact d_ (bg:=[]) bb F (aq:=f _) a v),
  b7.ee a a a a (λq K=>by cases q<;>cases K<;>exact aK.x),v⟩ ?_
 intro y N;show g (af.aD V) _ _ _ _ _ (tj _ (fH h b.1 i.2.1 i.2.2.1).1 (y 18) (y 16) (y 17));rw[N 18 ca,N 16 ca,N 17 ca];cases jJ:(fH h b.1 i.2.1 i.2.2.1).2 with
 |false=>
  rw[bl E];refine bP [56] a t' (g.eM 1 ?_);refine g.cM 9 a bn ?_;refine g.cM 11 a bn ?_;refine g.ret ?_;exact⟨⟨_,bs.same⟩,.inl a,a,a,_,_,_,a,a,a,a⟩
 |true=>
  rw[bo a];have U:=(X jJ).1;generalize(fH h b.1 i.2.1 i.2.2.1).1=w2 at *;have S:=Uk (p:=af.aD V) r z C I i w2 h w2 b.2.1 i.2.1 k.1 k.2 U.ba.dD e R.1 R.2;rw[show((k.1,k.2):m (Int×Int)×m Int)=k from a]at S;refine bP [-56] a t' (g.cK S a a a a E a λW=>?_);refine cy a v (g.cM 9 a bn ?_);refine g.cM 11 a bn ?_;refine g.ret ?_;exact⟨W,.inl a,a,a,_,_,_,a,a,a,a⟩
section
variable {p:af V}
def Uf(d)(h:c d<=4000000):X p 49 [a1.R d] [] (cD 0 (.R (c d) 2 0 (c d))) [.p 51 2 (c d) (a1.fn d)]:=by
 refine X.I func49 rfl λi=>?_;refine aZ a v (g.eu bb a a a a a a λb e=>?_);cases b with
 |true=>
  obtain rfl:=jD (e rfl);refine aZ a v (g.e9 2 51 2 (a1.fn []) a ?_);exact FE
 |false=>
  refine gV [] 7 a v (g.dI 5 51 2 (a1.fn []) a ?_);refine aZ a ⟨a,a,show(0+c d)*16<=_ by omega⟩ (g.bf [.p 51 2 (c d) (a1.fn d)] a ?_ ?_)
  .simp[bs,cg]
  exact FM
abbrev uJ(a:dQ):an:=.p 99 2 (c a.1.1) (a3.fn a.1.1)
abbrev xn(da:m (Int×Int)):an:=.p 51 2 (c da) (a1.fn da)
abbrev NA(a:ek):m Q:=.c (.int .i64 a.1)::([.K 2 (.R (c a.2.1.1.1) 2 0 (c a.2.1.1.1)),cK bh a.2.1.1.2.1,cK a1 a.2.1.1.2.2,cK aC a.2.1.2.1,cK aC a.2.1.2.2]++vv a.2.2.1++[.K 3 (.R (c a.2.2.2.1) 2 0 (c a.2.2.2.1)),.K 4 (.R (c a.2.2.2.2) 1 0 (c a.2.2.2.2))])
def Is(a:ek)(b d e g:Bool):m an:=
 match b,d,e,g with
 |true,l,l,l=>[mV a,.cells 35 (NA a),uJ a.2.1,xn a.2.2.2.1,jH (c a.2.2.2.2) a.2.2.2.2]
 |true,l,l,u=>[mV a,fZ,uJ a.2.1,xn a.2.2.2.1,jH (c a.2.2.2.2) a.2.2.2.2]
 |true,l,u,_=>[mV a,fZ,uJ a.2.1,xn a.2.2.2.1]
 |true,u,_,_=>[mV a,fZ,uJ a.2.1]
 |false,_,_,_=>[mV a,fZ]
abbrev aec(a:ek)(b:Nat):y:=
 [aH 0 0,R a.1,aH 0 1,gz a.2.1,.n (.agg [.K 2 (.R (c a.2.1.1.1) 2 0 (c a.2.1.1.1)),cK bh a.2.1.1.2.1,cK a1 a.2.1.1.2.2,cK aC a.2.1.2.1,cK aC a.2.1.2.2]),aH 0 6,ep a.2.2.1,aH 0 10,a1.R a.2.2.2.1,cD 3 (.R (c a.2.2.2.1) 2 0 (c a.2.2.2.1)),
  aH 0 11,aC.R a.2.2.2.2,cD 4 (.R (c a.2.2.2.2) 1 0 (c a.2.2.2.2)),.n (.agg (NA a)),.any].getD b .any
set_option maxRecDepth 20000 in
def X'(b)(j:dK b.2.1.1)(K:c b.2.1.2.1<=4000000)(h:c b.2.1.2.2<=4000000)(d:c b.2.2.2.1=2)(q:c b.2.2.2.2=2):
  X p 22 [eZ b] [] (.n (.agg (gX b.1 b.2.1 b.2.2.1 0))) (lj b.2.2.2.1 b.2.2.2.2):=by
 refine X.bc bb func22 rfl rfl rfl λk=>?_
 have w:a9 p [(48,k5 [gz b.2.1] [] (.n (.agg [.K 0 (.R (c b.2.1.1.1) 2 0 (c b.2.1.1.1)),cK bh b.2.1.1.2.1,cK a1 b.2.1.1.2.2,cK aC b.2.1.2.1,cK aC b.2.1.2.2])) [uJ b.2.1]),
   (49,k5 [a1.R b.2.2.2.1] [] (cD 0 (.R (c b.2.2.2.1) 2 0 (c b.2.2.2.1))) [xn b.2.2.2.1]),
   (50,k5 [aC.R b.2.2.2.2] [] (cD 0 (.R (c b.2.2.2.2) 1 0 (c b.2.2.2.2))) [jH (c b.2.2.2.2) b.2.2.2.2])]:=
  .cons (l3 (Ju b.2.1 j K h)) (.cons (l3 (Uf b.2.2.2.1 x)) (.cons (l3 (IS b.2.2.2.2 x)) .nil))
 refine bf w [901] a v ?_;refine g.cm b6 (aec b) (mv (Is b) 4 9 12 14) a a a a
  ⟨.aO,.aO,.aO,.aO,
  b7.ec a a a a a a (d_ (bg:=[]) bb w (aq:=f _) a ⟨rfl,rfl⟩),
  .aO,.aO,.aO,.aO,
  b7.eS a a a a a a (d_ (bg:=[]) bb w (aq:=f _) a ⟨rfl,rfl⟩),
  .aO,.aO,
  b7.eT a a a a a a (d_ (bg:=[]) bb w (aq:=f _) a ⟨rfl,rfl⟩),
  .aO,
  b7.eW a a a a a a (d_ (bg:=[]) bb w (aq:=f _) a v),v⟩ ?_
 intro y i;show g p _ _ _ _ _ (Is b (y 4) (y 9) (y 12) (y 14));rw[i 4 ca,i 9 ca,i 12 ca,i 14 ca];refine pB w [] 1 a v (g.bu 2 a a a E E (g.bf [mV b,.cells 35 (gX b.1 b.2.1 b.2.2.1 3),.J,.p 51 2 2 (a1.fn b.2.2.2.1),.p 3 1 2 (aC.fn b.2.2.2.2)] a ?_ ?_))
 .simp[hD,d,q]
 refine g.bh () [3,4] ?_ (λm e=>absurd e E);simp
end
abbrev NK:ek:=(0,kS,nL,[],[])
def gA(a:ek)(b:gj):ek×Bool:=if e2 a=l then((a.1,(ck a.1 a.2 b).1),(ck a.1 a.2 b).2)else(NK,u)
abbrev zC(a:ek×Bool):y:=.Q [.agg (lu a.1),.ar (.c (.bool a.2))]
def wo{a}(b:e2 a=l):c a.2.2.2.1=2/\c a.2.2.2.2=2/\hj a.1 a.2.1=l:=by simp only[e2,cl,bw]at b;exact⟨b.1.1.1,b.1.1.2,b.2⟩
abbrev u'(a:Nat):m O:=[.fn (.func a) [] []]
abbrev EV:m (m O):=[u' 17,u' 18,u' 19,u' 20,u' 21]
abbrev Yr(a:Nat):Nat:=[17,18,19,20,21].getD (a-1) 0
abbrev wq(a:Int)(e:gj)(d:Bool)(b:Nat):y:=
 [ax (.R l 1 5 λb=>EV.getD b []),aH 4 0,R a,R (a-1),ax (.M (EV.getD (a-1).toNat [])),ax ((EV.getD (a-1).toNat []).getD 0 (.bool u)),lK e,bi d,bi d].getD b .any
set_option maxRecDepth 20000 in
def Yg(m i)(b)(h)(j)(z:e_ (6000+240*j) b.2.1)(I:j<=1000):
  X (af.aD V) 6 [eZ b,lK h] (kX m i) (zC (gA b h)) (kX m i):=by
 refine X.bc bb func6 rfl rfl rfl λy=>?_;have w:a9 (af.aD V) [(16,ed [eZ b] (bi (e2 b)))]:=.cons (eu (CI b (z.dY x))) .nil;unfold gA;cases bW:e2 b with
 |false=>
  exact bf w [11] a kT nN
 |true=>
 obtain⟨C,D,F⟩:=wo bW;have s:f_ j b.2:=⟨z,C,D⟩;have O:=z.b' x
 rw[bo a];refine bf w [-11] a kT (g.aC (X' b O.ba (by have:=z.b5;omega) (by have:=z.cW;omega) C D) [] a ?_);by_cases M:1<=h.1/\h.1<=5
 rotate_left
 .have Q:ck b.1 b.2 h=(b.2,u):=by unfold ck;grind
  rw[Q];apply g.cd [(2,aH 3 0),(3,aH 4 0),(4,aH 5 0),(7,aH 8 0)] (pw m i b h++lj b.2.2.2.1 b.2.2.2.2++[pO b.1 b.2.1 b.2.2.1])
  .intro dx;by_cases J:h.1<1
   .exact bf w [19,23,906] a (by simp[J]) kw
   exact bf w [-19,23,906] a bT kw
  refine g.bu 6 a a a E E (g.bu 7 a a a E E (cM w a v (g.cr () [0,1,2] ?_ pd)));simp[hD,C,D]
 have bz:l' (Yr h.1.toNat) m i b h b.1 b.2 h:=by
  have A:h.1=1∨h.1=2∨h.1=3∨h.1=4∨h.1=5:=x;rcases A with r|r|r|r|r<;>rw[r]
  .exact Yd m i b h b.1 b.2 h s I r
  .exact Yc m i b h b.1 b.2 h s r
  .exact Yb m i b h b.1 b.2 h r
  .exact Ya m i b h b.1 b.2 h s F r
  exact Ye m i b h b.1 b.2 h s I F r
 unfold l' at bz;have B:(ck b.1 b.2 h).1.2.2.1.length=2/\(ck b.1 b.2 h).1.2.2.2.length=2:=⟨(s.do).bb,(s.do).b0⟩;refine bf w [-19,-23,907] a bT ?_
 generalize K:ck b.1 b.2 h=e at *;have A:h.1=1∨h.1=2∨h.1=3∨h.1=4∨h.1=5:=x;obtain⟨r,d,q,k,p⟩:=h;simp only at A bz;rcases A with rfl|rfl|rfl|rfl|rfl
 .refine g.df b6 7 (λo=>ay o 6) (wq 1 (1,d,q,k,p) e.2) (λ(_:qp e.1.2.2.2) o=>[bi e.2,bi e.2].getD (o-7) .any) (λt=>qg m i b (1,d,q,k,p) b.1 e.1 t.1) a a a a a a wz wy wA ?_;intro t;refine g.bf (pw m i b (1,d,q,k,p)++lj e.1.2.2.1 e.1.2.2.2++[pO b.1 e.1.1 e.1.2.1,.J,.J,.J,.J]) a tV ?_;exact wx
 .refine g.df b6 7 (λo=>ay o 6) (wq 2 (2,d,q,k,p) e.2) (λ(_:qp e.1.2.2.2) o=>[bi e.2,bi e.2].getD (o-7) .any) (λt=>qg m i b (2,d,q,k,p) b.1 e.1 t.1) a a a a a a wz wy wA ?_;intro t;refine g.bf (pw m i b (2,d,q,k,p)++lj e.1.2.2.1 e.1.2.2.2++[pO b.1 e.1.1 e.1.2.1,.J,.J,.J,.J]) a tV ?_;exact wx
 .refine g.df b6 7 (λo=>ay o 6) (wq 3 (3,d,q,k,p) e.2) (λ(_:qp e.1.2.2.2) o=>[bi e.2,bi e.2].getD (o-7) .any) (λt=>qg m i b (3,d,q,k,p) b.1 e.1 t.1) a a a a a a wz wy wA ?_;intro t;refine g.bf (pw m i b (3,d,q,k,p)++lj e.1.2.2.1 e.1.2.2.2++[pO b.1 e.1.1 e.1.2.1,.J,.J,.J,.J]) a tV ?_;exact wx
 .refine g.df b6 7 (λo=>ay o 6) (wq 4 (4,d,q,k,p) e.2) (λ(_:qp e.1.2.2.2) o=>[bi e.2,bi e.2].getD (o-7) .any) (λt=>qg m i b (4,d,q,k,p) b.1 e.1 t.1) a a a a a a wz wy wA ?_;intro t;refine g.bf (pw m i b (4,d,q,k,p)++lj e.1.2.2.1 e.1.2.2.2++[pO b.1 e.1.1 e.1.2.1,.J,.J,.J,.J]) a tV ?_;exact wx
 refine g.df b6 7 (λo=>ay o 6) (wq 5 (5,d,q,k,p) e.2) (λ(_:qp e.1.2.2.2) o=>[bi e.2,bi e.2].getD (o-7) .any) (λt=>qg m i b (5,d,q,k,p) b.1 e.1 t.1) a a a a a a wz wy wA ?_;intro t;refine g.bf (pw m i b (5,d,q,k,p)++lj e.1.2.2.1 e.1.2.2.2++[pO b.1 e.1.1 e.1.2.1,.J,.J,.J,.J]) a tV ?_;exact wx
section
variable {M:dQ}{bR:Int}{o:m cY}
def Mf(i:ma M.1)(d:(fH h M bR o).2=l):j2 h M/\i' h M.1 bR o/\fH h M bR o=(mM h M bR o,l):=by
 unfold fH at *;split at d
 .rename_i b;rw[bo b];split at d
  .cases d
  rename_i g;rw[bl g];simp only[qE,cl,bw]at b;have e:=r3.1 b.1.1;exact⟨e,⟨e.toiB,i,b.1.2,b.2,by simp_all⟩,a⟩
 cases d
def j2.cN(e:j2 h M)(i:i' h M.1 bR o):j2 h (mM h M bR o):=by
 refine⟨i.ok,λg b d a=>?_,λd a=>?_,e.hq⟩
 .show d∈(gF (fI (cX M.1) h o).2).foldl e6 M.2.1;rw[yI,DC];have b:g∈M.1.2.1++[fI (cX M.1) h o]:=b;rcases fC.1 b with b|b
  .exact .inl (e.gv g b d a)
  simp_all
 obtain⟨m,j,k⟩:=e.gq d a;exact⟨m,AS _ j,k⟩
end
section
variable {p:af V}
abbrev E5(a:ek)(d b:Nat):m Q:=.c (.int .i64 a.1)::([cK a3 a.2.1.1.1,cK bh a.2.1.1.2.1,cK a1 a.2.1.1.2.2,cK aC a.2.1.2.1,.w d 1 (c a.2.1.2.2) (aC.fn a.2.1.2.2)]++vv a.2.2.1++[.K b (.R 2 2 0 2),.K (b+1) (.R 2 1 0 2)])
def Ut(a)(e:p0 a.2.1)(b:c a.2.2.2.1=2)(d:c a.2.2.2.2=2):X p 15 [eZ a] [] (.n (.agg (E5 a 0 1))) ([hV a.2.1]++hf a.2):=by have:=u6 (p:=p) a e x x;simp only[zO,Cg,b,d]at this;exact this
abbrev mU(b:ek)(a:gj):m an:=[.cells 35 (lu b),rD a,fZ]
abbrev yQ:an:=.E λ_ _=>False
def Z8(s:bc (k++[yQ]) b):False:=by have a:c k<c b.s:=Ff;obtain⟨_,d,_⟩:=s.box (c k) yQ _ wV (bF a);exact d.elim
def Ei(a:ek)(b:gj)(h:Option Bool)(g d e:Bool):m an:=
 match h with
 |none=>match d with
  |false=>mU a b
  |true=>mU a b++[fZ]
 |some l=>match g,d,e with
  |false,u,_=>mU a b++[fZ,hV a.2.1]++hf a.2++[yQ]
  |true,u,_=>mU a b++[fZ,hV a.2.1]++hf (ck a.1 a.2 b).1++[yQ]
  |false,l,_=>mU a b++[fZ,hV a.2.1]++hf a.2
  |true,l,u=>mU a b++[fZ,hV a.2.1]++hf (ck a.1 a.2 b).1
  |true,l,l=>mU a b++[.cells 35 (gX a.1 (ck a.1 a.2 b).1.1 (ck a.1 a.2 b).1.2.1 5),hV a.2.1]++hf (ck a.1 a.2 b).1
 |some u=>match g,d,e with
  |false,u,_=>mU a b++[hV a.2.1]++hf a.2
  |false,l,_=>mU a b++[hV a.2.1]++hf a.2++[fZ]
  |true,u,_=>mU a b++[hV a.2.1]++hf (ck a.1 a.2 b).1
  |true,l,u=>mU a b++[hV a.2.1]++hf (ck a.1 a.2 b).1++[fZ]
  |true,l,l=>mU a b++[hV a.2.1]++hf (ck a.1 a.2 b).1++[.cells 35 (gX a.1 (ck a.1 a.2 b).1.1 (ck a.1 a.2 b).1.2.1 4)]
def qW(a:ek)(b:gj)(e:Option Bool)(d:Nat):y:=
 match e with
 |none=>[eZ a,.any,lK b,.any,.any,.any,.any,aH 3 0,.any,.any].getD d .any
 |some l=>[eZ a,.n (.agg (E5 a 4 5)),lK b,.Q [.agg (gX a.1 (ck a.1 a.2 b).1.1 (ck a.1 a.2 b).1.2.1 5),.ar (.c (.bool (ck a.1 a.2 b).2))],.Q [.agg (gX a.1 (ck a.1 a.2 b).1.1 (ck a.1 a.2 b).1.2.1 5),.ar (.c (.bool (ck a.1 a.2 b).2))],.n (.agg (gX a.1 (ck a.1 a.2 b).1.1 (ck a.1 a.2 b).1.2.1 5)),bi (ck a.1 a.2 b).2,aH 3 0,.any,bi (ck a.1 a.2 b).2].getD d .any
 |some u=>[eZ a,.n (.agg (E5 a 3 4)),lK b,.Q [.agg (gX a.1 (ck a.1 a.2 b).1.1 (ck a.1 a.2 b).1.2.1 4),.ar (.c (.bool (ck a.1 a.2 b).2))],.Q [.agg (gX a.1 (ck a.1 a.2 b).1.1 (ck a.1 a.2 b).1.2.1 4),.ar (.c (.bool (ck a.1 a.2 b).2))],.n (.agg (gX a.1 (ck a.1 a.2 b).1.1 (ck a.1 a.2 b).1.2.1 4)),bi (ck a.1 a.2 b).2,aH 6 0,.any,bi (ck a.1 a.2 b).2].getD d .any
def NE{S:Prop}(s:S:=by intro K w i q;rcases K with _|t<;>(try cases t)<;>cases w<;>cases i<;>cases q<;>rfl):S:=s
def zQ{S:Prop}(s:S:=by intro t w i q;cases t<;>cases w<;>cases i<;>cases q<;>rfl):S:=s
def f_.km{b}(a:f_ j b)(d:j<=1001):p0 b.1:=a.a.b' x
set_option maxRecDepth 20000 in
theorem Yh(b)(h)(j)(N:e_ (6000+240*j) b.2.1)(G:j<=1000):
  X p 5 [eZ b,lK h] [] (zC (gA b h)) []:=by
 refine X.bc bb func5 rfl rfl rfl λH=>?_;have q:a9 p [(8,ed [eZ b] (bi (e2 b)))]:=.cons (eu (Jz b (N.b' x).b5)) .nil;unfold gA;cases bW:e2 b with
 |false=>
  exact bf q [10] a kT OZ
 |true=>
 obtain⟨S,O,ah⟩:=wo bW;have ab:f_ j b.2:=⟨N,S,O⟩;have ae:=N.b' x
 rw[bo a];have Q:=Ut (p:=p) b ae S O;have C:=I2 (p:=p) b.1 b.2 h j ab G;have K:f_ (j+1) (ck b.1 b.2 h).1:=ab.do;refine bf q [-10,903] a kT ?_;refine g.hf b6 (qW b h) (md (Ei b h) 3 7 8) (l9 Bool 1) n a a a a a
   ⟨.fN bb q NE,
   eG.i_ a a a a a (λi t=>t=i) (λi t J I=>by
    subst J
    match I with
    |0=>exact .inr (.inr (.inr Ai))
    |1=>exact .inl rfl
    |2=>exact .inr (.inr (.inr Ai))
    |3=>exact .inr (.inl rfl)
    |4=>exact .inr (.inl rfl)
    |5=>exact .inr (.inl rfl)
    |6=>exact .inr (.inl rfl)
    |7=>cases t with
     |false=>exact .inr (.inr (.inl ⟨rfl,rfl⟩))
     |true=>exact .inr (.inr (.inr rfl))
    |8=>exact .inr (.inr (.inr Ai))
    |9=>exact .inr (.inl rfl)
    |I+10=>exact .inr (.inr (.inr Ai))) (λi=>by
     intro aa w V M dT Y z U W e J B A;cases i
     .exact dA.di Q.tocH [] a a a a a a a bn a bn aa w V M dT Y z U W e J B λ_ R s k m o=>A ⟨u,a⟩ R s k m o
     .exact dA.di Q.tocH [] a a a a a a a bn a bn aa w V M dT Y z U W e J B λ_ R s k m o=>A ⟨l,a⟩ R s k m o),
   .fN bb q NE,
   eG.g4 a a a a a (λt w=>aK.dV (by
    cases t
    .cases w
     .exact PZ
     exact PZ
    .cases w
     .exact dA.b6 C.tocH [5,6] a a a a E a a a bn a bn
     .exact dA.b6 C.tocH [5,6] a a a a E a a a bn a bn)),
   .dU bb q zQ,
   .dU bb q zQ,
   .dU bb q zQ,
   eG.g5 rfl rfl rfl rfl (λD w=>by rcases D with _|I<;>(try cases I)<;>cases w<;>first|exact d_ (bg:=[]) bb q (aq:=f _) rfl v|exactλ_ _ _ M=>(Z8 M).elim),
   eG.g6 a a a a a a (λt=>by cases t<;>exact d_ (bg:=[]) bb q (aq:=f _) a v),
   .dU bb q zQ,v⟩ ?_
 intro D y af F;have ag:D.isSome=l:=(show D.isSome=y 1 from af).trans (F 1 ca);have d:=K.bb;have r:=K.b0;have Z:=Us (p:=p) (b.1,(ck b.1 b.2 h).1) (K.km x) (by simp only;omega) (by simp only;omega);cases D with
 |none=>cases ag
 |some t=>
 show g p _ _ _ _ _ (Ei b h (f t) (y 3) (y 7) (y 8));rw[F 3 ca,F 7 ca,F 8 ca];cases t with
 |false=>
  refine pB q [] 1 a v (g.bu 4 a a a E E (g.bu 5 a a a E E (cM q a v (g.b6 Z.tocH [] a a a a Pp a a a bn a bn a ?_))));exact OE
 |true=>
  refine pB q [] 1 a v (g.bu 5 a a a E E (g.bu 6 a a a E E (cM q a v (g.b6 Z.tocH [] a a a a Pp a a a bn a bn a ?_))));exact OE
end
section
variable {p:af V}
def Cw(b)(e:dK b.2.1.1)(i:c b.2.2.2.1<=4000000):X p 7 [eZ b,eZ b] [] (bi l) []:=by
 refine X.I func7 rfl λj=>?_;have w:a9 p [(23,ed [gz b.2.1,gz b.2.1] (bi l)),(24,xE)]:=.cons (eu (VX b.2.1 e)) (.cons EO .nil);refine bf w [-11,-19,-26,-35,-42] a (by simp[aC.T,aC.l]) (g.aL 2 (λd=>d<=c b.2.2.2.1) (λd:Nat=>[(2,aH 0 0),(3,aH 1 0),(5,R d)]) (λ_=>[.cells 35 (lu b),.cells 35 (lu b)]) (λd=>c b.2.2.2.1-d) 0 a E a E a x ?_);intro d h;by_cases k:d<c b.2.2.2.1
 .refine bf w [47,-60] a ?_ (g.aA (d+1) a ?_ ?_ ?_ ?_)
  .simp only[T,a8,f',fm,h4,bw,a',a_];and_intros<;>first|omega|rfl|simp
  .simp
  .simp
  .grind
  omega
 refine bf w [-47] a bT (g.aB ?_);exact wB
end
structure q_ where
 cA:nR 0
 n:{S:gj×Nat // Ar cA.k1 S}
abbrev q_.a(a:q_):ek:=a.cA.a
abbrev q_.gh(a:q_):gj:=a.n.1.1
section
variable {p:af V}[p.b2]
set_option maxRecDepth 20000 in
def UH(z)(d:Nat->Int)(k:Bytes d)(m:z<=1048576):
  bk (ι:=q_) p 4 [ax (.R u 1 z (sG d))] [] (λj=>.Q [.agg (lu j.a),.agg (Co j.gh)]) (λ_=>[]):=by
 refine bk.hl func4 rfl rfl (fl rfl) (g.aU ?_);refine aZ a v (g.a6 (WO z d m) [] a bn ?_);rintro⟨h,b⟩;refine aZ a v (g.a6 (Yf h d k 0 x b) [2] a bn ?_);intro e;have q:=e.gk;refine aZ a v (g.a6 (I4 h d k e.k1 x b) [2] a bn ?_);intro i;refine aZ a v (g.bu 4 a a a E E (g.bu 5 a a a E E (g.bf [.cells 35 (lu e.a),rD i.1.1,eh h d i.1.2,hV e.a.2.1,.J,.J] a ?_ ?_)))
 .simp[hD]
 refine g.freeze 2 0 a a a ?_;refine g.freeze 3 1 a a a ?_;refine g.bT (λ_ _ _ o=>⟨⟨e,i⟩,o⟩) ?_;exact QI
end
def nR.gJ(a:nR 0):e_ (6000+240*8) a.a.2.1:=by rw[(Ez a.v (gd a.dN)).1];exact(vR a.dN).a.mono (by have:=a.gm;omega)
def uo(a:m (Int×Int)×m Int):Prop:=c a.1=2/\c a.2=2/\∀b,b<2->oB (a.1.getD b (0,0))=l/\0<=a.2.getD b 0/\a.2.getD b 0<=2
def NC{b}:e2 (h,b)=l↔j2 h b.1/\uo b.2.2:=by
 unfold e2 uo;simp[cl,bw,fS,r3,pM];constructor
 .rintro⟨⟨⟨a,i⟩,d⟩,q⟩;exact⟨q,a,i,d⟩
 rintro⟨q,a,i,d⟩;exact⟨⟨⟨a,i⟩,d⟩,q⟩
def ZU{z}{d}(b:oB z=l):oB (gm z d).1=l/\0<=(gm z d).2/\(gm z d).2<=2:=by
 unfold gm;split
 .rename_i q;split
  .obtain⟨i,e⟩:=Dw q.1;have a:=(v8 i e (c d)).1;rw[c9]at a;refine⟨?_,by simp,by simp⟩;simp only[oB,cl,bw];exact⟨⟨by omega,by omega⟩,a⟩
  exact⟨b,by simp,by simp⟩
 exact⟨b,by simp,by simp⟩
def uo.look{bR}{b}{d}{h}(g:uo h)(s:1<=bR/\bR<=2):uo (gD bR b d h):=by
 obtain⟨k,m⟩:=td (bR:=bR) (b:=b) (d:=d) g.1 g.2.1;refine⟨k,m,λa o=>?_⟩;have p:(bR-1).toNat<2:=x;obtain⟨r,q⟩:=g.2.2 a o;have i:=ZU (d:=(kl b d).2.2) (g.2.2 _ p).1;unfold gD;split
 .have dM:∀e,(h.1.set (bR-1).toNat e).getD a (0,0)=if(bR-1).toNat=a then e else h.1.getD a (0,0):=λe=>by simp[ak,o2];split<;>simp_all[g.1]
  have j:∀e,(h.2.set (bR-1).toNat e).getD a 0=if(bR-1).toNat=a then e else h.2.getD a 0:=λe=>by simp[ak,o2];split<;>simp_all[g.2.1]
  rw[dM,j];split
  .exact⟨i.1,i.2⟩
  exact⟨r,q⟩
 exact⟨r,q⟩
def Tn{b}{aj}(p:e_ j b.1)(r:e2 (h,b)=l):e2 (h,(ck h b aj).1)=l:=by
 obtain⟨a,g⟩:=NC.1 r;refine NC.2 ?_;unfold ck;split
 .split
  .rename_i i;have k:=g.look (b:=b.1.1) (d:=b.2.1) i.1;unfold nE;split
   .split
    .rename_i e;obtain⟨q,m,o⟩:=Mf p.ba.ev e;rw[o];exact⟨q.cN m,k.look i.1⟩
    exact⟨a,k⟩
   exact⟨a,k⟩
  exact⟨a,g⟩
 split
 .split
  .rename_i i;exact⟨a,g.look i⟩
  exact⟨a,g⟩
 split
 .exact⟨a,g⟩
 split
 .split
  .refine⟨?_,g⟩;unfold j_;rw[bo (tG.2 a.toiB)];exact Sy a.toiB
  exact⟨a,g⟩
 split
 .exact⟨a.step,g⟩
 exact⟨a,g⟩
structure Gc(M:ek)(aj:gj):Prop where
 ba:∀{p:af V},X p 5 [eZ M,lK aj] [] (zC (gA M aj)) []
 a8:∀IH II,X (af.aD V) 6 [eZ M,lK aj] (kX IH II) (zC (gA M aj)) (kX IH II)
 gn:∀{p:af V},X p 7 [eZ (gA M aj).1,eZ (gA M aj).1] [] (bi l) []
 ok:∀{p:af V},X p 8 [eZ M] [] (bi (e2 M)) []
 kz:∀{p:af V},e2 M=l->X p 7 [eZ M,eZ M] [] (bi l) []
 j1:e2 M=l->f_ 1001 (ck M.1 M.2 aj).1
 gJ:e_ (6000+240*8) M.2.1
def Tm{b}{e}(d:e_ (6000+240*8) b.2.1):Gc b e:=by
 have h:e2 b=l->f_ 8 b.2:=λa=>⟨d,(wo a).1,(wo a).2.1⟩
 have g:e2 b=l->f_ 9 (ck b.1 b.2 e).1:=λa=>(h a).do;refine⟨Yh b e 8 d x,λj i=>Yg j i b e 8 d x,?_,Jz b (d.b' x).b5,λa=>?_,λa=>(g a).mono x,d⟩
 .unfold gA;cases a:e2 b with
  |false=>exact Cw NK ⟨by simp,by simp,by simp,by simp[kr],by simp⟩ E
  |true=>exact Cw (b.1,(ck b.1 b.2 e).1) (g a).a.ba.dJ (by have:=(g a).bb;simp only;omega)
 .exact Cw b d.ba.dJ (by have:=(h a).bb;omega)
def q_.do(a:q_):Gc a.a a.gh:=Tm a.cA.gJ
def ZV{d:Int×Int}{b:m (Int×Int)}(a:(gm d b).2=0):gm d b=(((c b:Int),e1 b),0):=by
 unfold gm at *;split at a
 .rename_i e;rw[bo e];split at a
  .rename_i i;rw[bo i]
  simp at a
 simp at a
def KI{d ba:m (Int×Int)}(a:gC (d++ba)=l):gm ((c d:Int),e1 d) (d++ba)=(((c (d++ba):Int),e1 (d++ba)),0):=by unfold gm;rw[bo ⟨a,by simp;omega,by simp⟩,bo E]
def KB{i:Int}{b:ce}{d:dO}{bd:m (Int×Int)×m Int}(e:bd.2.getD (i-1).toNat 0=0)(a:d.1=0):gD i b d bd=(bd.1.set (i-1).toNat (gm (bd.1.getD (i-1).toNat (0,0)) b.2.2).1,bd.2.set (i-1).toNat (gm (bd.1.getD (i-1).toNat (0,0)) b.2.2).2):=by unfold gD;rw[bo e];simp[kl,a]
def ve{a:m α}{b d:α}(g:e<c a):(a.set e b).getD e d=b:=by simp[ak,g]
structure R0(C:ek)(aj:gj)(bL:Int):Prop where
 cD:1<=aj.2.1/\aj.2.1<=2
 dd:∃d,C.2.1.1.2.2=d++[(aj.2.1,bL)]
 gn:wl C aj.2.1 bL=f aj.2.2.1
 hn:(ot C aj.2.1).1=(c C.2.1.1.2.2:Int)
 i':yg C aj.2.1=0
def To{b:iC}{aj:gj}(E:e_ j b.1)(o:e2 (h,b)=l)(K:aj.1=1)(e:(ck h b aj).2=l):∃y,R0 (h,(ck h b aj).1) aj y:=by
 have g:=Tn (aj:=aj) E o;obtain⟨F,I,_⟩:=wo o;have F:c b.2.2.1=2:=F;have I:c b.2.2.2=2:=I;unfold ck at e g⊢;rw[bo K]at e g⊢;split at e
 rotate_left
 .cases e
 rename_i A;rw[bo A]at g⊢;unfold nE at e g⊢;split at e
 rotate_left
 .cases e
 rename_i m;rw[bo m]at g⊢;split at e
 rotate_left
 .cases e
 rename_i C;rw[bo C]at g⊢;obtain⟨N,r,z⟩:=Mf E.ba.ev C;rw[z]at g⊢;have B:=A.1;have R:(aj.2.1-1).toNat<2:=x;have t:b.2.2.2.getD (aj.2.1-1).toNat 0=0:=by
  have:=m.1;unfold gD at this;split at this
  .assumption
  exact this
 have k:=KB (i:=aj.2.1) (b:=b.1.1) (d:=b.2.1) (bd:=b.2.2) t m.2;have v:(gm (b.2.2.1.getD (aj.2.1-1).toNat (0,0)) b.1.1.2.2).2=0:=by
  have:=m.1;rw[k]at this
  rwa [ve x]at this
 have O:=ZV v;rw[O]at k;have w:(mM h b.1 aj.2.1 aj.2.2.1).1=eE h b.1.1 aj.2.1 aj.2.2.1:=rfl;have q:gC (b.1.1.2.2++[(aj.2.1,cX b.1.1)])=l:=r.ok.dd;have s:=KB (i:=aj.2.1) (b:=eE h b.1.1 aj.2.1 aj.2.2.1) (d:=b.2.1) (bd:=gD aj.2.1 b.1.1 b.2.1 b.2.2) (by rw[k];exact ve x) m.2;rw[k]at s;have Q:((b.2.2.1.set (aj.2.1-1).toNat ((c b.1.1.2.2:Int),e1 b.1.1.2.2)).getD (aj.2.1-1).toNat (0,0))=((c b.1.1.2.2:Int),e1 b.1.1.2.2):=ve x;have J:=KI q;rw[Q,show(eE h b.1.1 aj.2.1 aj.2.2.1).2.2=b.1.1.2.2++[(aj.2.1,cX b.1.1)]from a,J]at s;rw[k,w,s]at g;rw[k,w,s];have p:ot (h,mM h b.1 aj.2.1 aj.2.2.1,b.2.1,((b.2.2.1.set (aj.2.1-1).toNat ((c b.1.1.2.2:Int),e1 b.1.1.2.2)).set (aj.2.1-1).toNat ((c (b.1.1.2.2++[(aj.2.1,cX b.1.1)]):Int),e1 (b.1.1.2.2++[(aj.2.1,cX b.1.1)])),(b.2.2.2.set (aj.2.1-1).toNat 0).set (aj.2.1-1).toNat 0)) aj.2.1=((c (b.1.1.2.2++[(aj.2.1,cX b.1.1)]):Int),e1 (b.1.1.2.2++[(aj.2.1,cX b.1.1)])):=ve bT;have D:yg (h,mM h b.1 aj.2.1 aj.2.2.1,b.2.1,((b.2.2.1.set (aj.2.1-1).toNat ((c b.1.1.2.2:Int),e1 b.1.1.2.2)).set (aj.2.1-1).toNat ((c (b.1.1.2.2++[(aj.2.1,cX b.1.1)]):Int),e1 (b.1.1.2.2++[(aj.2.1,cX b.1.1)])),(b.2.2.2.set (aj.2.1-1).toNat 0).set (aj.2.1-1).toNat 0)) aj.2.1=0:=ve bT;refine⟨cX b.1.1,B,⟨_,a⟩,?_,by rw[p];rfl,D⟩;unfold wl;rw[bo ⟨g,B,D⟩,p];unfold vx oJ;rw[bo g];have M:kl (eE h b.1.1 aj.2.1 aj.2.2.1) b.2.1=eE h b.1.1 aj.2.1 aj.2.2.1:=by simp[kl,m.2]
 simp only[w,M];rw[bo ⟨N.key,by
  have:=KI (d:=b.1.1.2.2++[(aj.2.1,cX b.1.1)]) (ba:=[]) Fi
  rw[hL]at this;exact eC Prod.snd this⟩]
 exact r.load
def VR(D C:ao×Y)(m:Nat)(s:Nat->Int)(J:Bytes s)(_:m<=9223372036854775807):X (af.aD V) 3 [ax (.R u 1 m (sG s))] (kX D C) (bi l) (kX D C):=by
 refine X.I func3 rfl λG=>?_;by_cases H:1048576<m
 .refine a6 [14] a bT (g.aQ [0,1,2] a ?_ pd);simp
 refine a6 [-14] a bT (g.a6 (UH m s J x) [] a bn ?_);intro w;have h:=w.do;generalize w.a=b at *;generalize w.gh=d at *;refine aZ a v (g.aC h.ba [] a (aZ a v (g.aC (h.a8 D C) [0,1,2] a ?_)));have I:=h.gn (p:=af.aD V);have E:a9 (af.aD V) [(7,ed [eZ (gA b d).1,eZ (gA b d).1] (bi l)),(8,ed [eZ b] (bi (e2 b)))]:=.cons (eu I) (.cons (eu h.ok) .nil);cases bW:e2 b with
 |false=>
  generalize gA b d=j at *;refine bf E [-35,-41,45,49] a kT (g.aQ [0,1,2] a ?_ pd);simp
 |true=>
 have y:gA b d=((b.1,(ck b.1 b.2 d).1),(ck b.1 b.2 d).2):=bo bW;by_cases q:d.1=1
 rotate_left
 .generalize gA b d=j at *;refine bf E [-35,-41,-45,57,60] a (by simp[bW,q]) (g.aQ [0,1,2] a ?_ pd);simp
 cases o:(gA b d).2 with
 |false=>
  generalize gA b d=j at *;refine bf E [-35,-41,-45,-57,60] a (by simp[bW,q,o]) (g.aQ [0,1,2] a ?_ pd);simp
 |true=>
 have M:(ck b.1 b.2 d).2=l:=by rw[y]at o;exact o
 obtain⟨e,i⟩:=To h.gJ bW q M;have k:=h.j1 bW;have B:=Yi (b.1,(ck b.1 b.2 d).1) d.2.1 e (k.a.dY x) (by have:=i.cD;omega);rw[i.gn]at B;have F:=k.bb;have O:=k.b0;obtain⟨L,r⟩:=i.dd;have N:=i.cD;have Q:=k.a.ba.dJ.aI;have A:=i.hn;have z:=i.i';have eq:(gA b d).1=(b.1,(ck b.1 b.2 d).1):=eC Prod.fst y;rw[<-eq]at B;have t:a9 (af.aD V) [(7,ed [eZ (gA b d).1,eZ (gA b d).1] (bi l)),(8,ed [eZ b] (bi (e2 b))),(9,ed [eZ (gA b d).1,R d.2.1,R e] (nH d.2.2.1 l)),(10,ed [bx.R d.2.2.1,bx.R d.2.2.1] (bi l))]:=.cons (eu I) (.cons (eu h.ok) (.cons (eu B) (.cons (eu (VY _)) .nil)));replace Q:(gA b d).1.2.1.1.2.2.length<=4000000:=by rw[eq];exact Q
 replace r:(gA b d).1.2.1.1.2.2=L++[(d.2.1,e)]:=by rw[eq];exact r
 replace A:((gA b d).1.2.2.2.1.getD (d.2.1-1).toNat a1.C).1=((gA b d).1.2.1.1.2.2.length:Int):=by rw[eq];exact A
 replace z:(gA b d).1.2.2.2.2.getD (d.2.1-1).toNat aC.C=0:=by rw[eq];exact z
 replace F:(gA b d).1.2.2.2.1.length=2:=by rw[eq];exact F
 replace O:(gA b d).1.2.2.2.2.length=2:=by rw[eq];exact O
 generalize gA b d=j at *;have S:c j.1.2.1.1.2.2=c L+1:=by rw[r];simp
 have K:j.1.2.1.1.2.2.getD ((c j.1.2.1.1.2.2:Int)-1).toNat a1.C=(d.2.1,e):=by rw[r];simp[ak]
 refine pB t [-35,-41,-45,-57,-60,80,86,98,111] 400 a ?_ (g.aQ [0,1,2] a ?_ pd)
 .simp only[T,a8,A,K,o,q,bW,f',h4,fm];and_intros<;>first|omega|rfl|trivial
 simpa using z
end R1
end Go.AM
